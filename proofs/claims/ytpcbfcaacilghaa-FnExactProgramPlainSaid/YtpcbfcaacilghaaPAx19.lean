-- made by a program of this session (wip/myprint.py over the kit's print)
import Derived.Test.YtpcbfcaacilghaaV
import Derived.Test.YtpcbfcaacilghaaPAx0
import Derived.Test.YtpcbfcaacilghaaPAx1
namespace Go.Proofs.Ytpcbfcaacilghaa.PA
open Go.RowKit Go.Proofs.YtpcbfcaacilghaaW.PrintWords Go.Proofs.YtpcbfcaacilghaaW.PrintLast Go.Proofs.YtpcbfcaacilghaaW.PrintMore
attribute [local go_sem] max2_int min2_int max_two min_two max_three min_three max_four min_four   -- for this text's walks alone
set_option linter.unusedVariables false
set_option linter.unusedSimpArgs false

/-! ### spec_l12Boxes: function 36 -/
theorem spec_l12Boxes.mono_l : ∀ k, (∀ y0 y1, LeO (spec_l12Boxes.f k y0 y1) (spec_l12Boxes.f (k + 1) y0 y1)) ∧ (∀ y0 y1 y2, LeO (spec_l12Boxes.l0 k y0 y1 y2) (spec_l12Boxes.l0 (k + 1) y0 y1 y2)) ∧ (∀ y0 y1 y2 y3 y4 y5 y6 y7 y8 y9 y10 y11, LeO (spec_l12Boxes.j1 k y0 y1 y2 y3 y4 y5 y6 y7 y8 y9 y10 y11) (spec_l12Boxes.j1 (k + 1) y0 y1 y2 y3 y4 y5 y6 y7 y8 y9 y10 y11))
  | 0 => ⟨fun _ _ r h => by simp [spec_l12Boxes.f] at h, fun _ _ _ r h => by simp [spec_l12Boxes.l0] at h, fun _ _ _ _ _ _ _ _ _ _ _ _ r h => by simp [spec_l12Boxes.j1] at h⟩
  | k + 1 => by
    obtain ⟨ih0, ih1, ih2⟩ := spec_l12Boxes.mono_l k
    refine ⟨?_, ?_, ?_⟩
    · intro y0 y1
      unfold spec_l12Boxes.f
      repeat' first
      | (with_reducible exact ih0 _ _)
      | (with_reducible exact ih1 _ _ _)
      | (with_reducible exact ih2 _ _ _ _ _ _ _ _ _ _ _ _)
      | (with_reducible exact LeO.refl _)
      | (with_reducible exact LeO.none _)
      | (with_reducible refine LeO.ite ?_ ?_)
      | (with_reducible refine LeO.bind ?_ (fun _ => ?_))
      | exact ih0 _ _
      | exact ih1 _ _ _
      | exact ih2 _ _ _ _ _ _ _ _ _ _ _ _
      | exact LeO.none _
      | refine LeO.ite ?_ ?_
      | refine LeO.bind ?_ (fun _ => ?_)
    · intro y0 y1 y2
      unfold spec_l12Boxes.l0
      repeat' first
      | (with_reducible exact ih0 _ _)
      | (with_reducible exact ih1 _ _ _)
      | (with_reducible exact ih2 _ _ _ _ _ _ _ _ _ _ _ _)
      | (with_reducible exact LeO.refl _)
      | (with_reducible exact LeO.none _)
      | (with_reducible refine LeO.ite ?_ ?_)
      | (with_reducible refine LeO.bind ?_ (fun _ => ?_))
      | exact ih0 _ _
      | exact ih1 _ _ _
      | exact ih2 _ _ _ _ _ _ _ _ _ _ _ _
      | exact LeO.none _
      | refine LeO.ite ?_ ?_
      | refine LeO.bind ?_ (fun _ => ?_)
    · intro y0 y1 y2 y3 y4 y5 y6 y7 y8 y9 y10 y11
      unfold spec_l12Boxes.j1
      repeat' first
      | (with_reducible exact ih0 _ _)
      | (with_reducible exact ih1 _ _ _)
      | (with_reducible exact ih2 _ _ _ _ _ _ _ _ _ _ _ _)
      | (with_reducible exact LeO.refl _)
      | (with_reducible exact LeO.none _)
      | (with_reducible refine LeO.ite ?_ ?_)
      | (with_reducible refine LeO.bind ?_ (fun _ => ?_))
      | exact ih0 _ _
      | exact ih1 _ _ _
      | exact ih2 _ _ _ _ _ _ _ _ _ _ _ _
      | exact LeO.none _
      | refine LeO.ite ?_ ?_
      | refine LeO.bind ?_ (fun _ => ?_)
theorem spec_l12Boxes.mono : ∀ a0 a1 k, LeO (spec_l12Boxes.f k a0 a1) (spec_l12Boxes.f (k + 1) a0 a1) := by
  intro a0 a1 k
  obtain ⟨ih0, ih1, ih2⟩ := spec_l12Boxes.mono_l k
  exact ih0 a0 a1
set_option maxHeartbeats 8000000 in
set_option maxRecDepth 100000 in
theorem spec_l12Boxes.calls (k : Nat) : ∀ (A0 : Option Addr) (c0 : Nat) (l0 : List (S37)) (a1 : Int) (r : Bool) (w : World) (hr0 : Kd.C k37 w A0 l0.length l0) (hc0 : l0.length ≤ c0) (h : spec_l12Boxes.f k l0 a1 = some r),
    Calls Try.prog 36 #[.slice A0 l0.length c0, .int .i64 a1] w fun e w' => e = .returned (.bool r) ∧ Below w.heap.size w w' := by
  induction k using Nat.strongRecOn with
  | _ k ih =>
  intro A0 c0 l0 a1 r w hr0 hc0 h
  cases k with
  | zero => exact absurd h (by simp [spec_l12Boxes.f])
  | succ k =>
  simp only [spec_l12Boxes.f] at h
  have hu37 := Try.underlying37
  have HR0 := Aside0.mk hr0
  have HC0 := Aside0.mk hc0
  clear hr0 hc0
  have HB := Aside0.mk (Below.refl w.heap.size w)
  have H : (spec_l12Boxes.l0 k l0 a1 0) = some r := h
  clear h
  have H' := Aside0.mk H
  clear H
  go_enter Try.func36, Try.ntmps36
  go_wp2
  go_loopg [5] k (fun kq v5 w' => ∃ (x5_1 : Int), v5 = .int .i64 x5_1 ∧ Aside0 (spec_l12Boxes.l0 kq l0 a1 x5_1 = some r) ∧ Aside0 (kq ≤ k) ∧ Aside0 (Below w.heap.size w w'))
  case atStart => exact ⟨(0), (by first | rfl | (simp; done) | (simp [*]; done)), H', ⟨Nat.le_refl _⟩, ⟨ab1_⟩⟩
  case round =>
    clear H'
    try clear p2
    obtain ⟨x5_1, rfl, HA, HK1, HB⟩ := hrel
    cases gk with
    | zero => exact absurd HA.out (by simp [spec_l12Boxes.l0])
    | succ k1 =>
      have H := HA.out
      clear HA
      simp only [spec_l12Boxes.l0] at H
      by_cases c3 : x5_1 < (l0.length : Int)
      · rw [if_pos c3] at H
        have c3b0 : decide (x5_1 < (l0.length : Int)) = true := decide_eq_true c3
        clear c3
        by_cases c4 : 0 ≤ x5_1
        · rw [if_pos c4] at H
          have c4b0 : decide (0 ≤ x5_1) = true := decide_eq_true c4
          clear c4
          have HC5 := Aside0.mk H
          clear H
          have p163 : 0 ≤ (x5_1 : Int) := of_decide_eq_true (by first | (with_reducible assumption) | assumption)
          have q163 : x5_1 < (l0.length : Int) := of_decide_eq_true (by first | (with_reducible assumption) | assumption)
          obtain ⟨ad163, A163_5, c163_5, A163_6, c163_6, A163_7, c163_7, e163, hx163_0, hx163_1, hx163_2, hx163_3, hx163_4, hx163_5, hx163_6, hx163_7, hl163_5, hi163_5, hl163_6, hi163_6, hl163_7, hi163_7⟩ := at_T37 HR0.out x5_1 p163 q163
          cases e163
          replace hx163_0 := (HB.out.cell (World.block_lt_of_cell? w _ hx163_0)).trans hx163_0
          replace hx163_1 := (HB.out.cell (World.block_lt_of_cell? w _ hx163_1)).trans hx163_1
          replace hx163_2 := (HB.out.cell (World.block_lt_of_cell? w _ hx163_2)).trans hx163_2
          replace hx163_3 := (HB.out.cell (World.block_lt_of_cell? w _ hx163_3)).trans hx163_3
          replace hx163_4 := (HB.out.cell (World.block_lt_of_cell? w _ hx163_4)).trans hx163_4
          replace hx163_5 := (HB.out.cell (World.block_lt_of_cell? w _ hx163_5)).trans hx163_5
          replace hx163_6 := (HB.out.cell (World.block_lt_of_cell? w _ hx163_6)).trans hx163_6
          replace hx163_7 := (HB.out.cell (World.block_lt_of_cell? w _ hx163_7)).trans hx163_7
          have HR163_5 := Aside0.mk hi163_5
          have HC163_5 := Aside0.mk hl163_5
          clear hi163_5 hl163_5
          have HR163_6 := Aside0.mk hi163_6
          have HC163_6 := Aside0.mk hl163_6
          clear hi163_6 hl163_6
          have HR163_7 := Aside0.mk hi163_7
          have HC163_7 := Aside0.mk hl163_7
          clear hi163_7 hl163_7
          replace p163 := eq_true p163
          replace q163 := eq_true q163
          go_upto_region 5 with (first | ((with_reducible refine gate_dst (N := 6) rfl ?_); refine box_event ?hg (N := 6) ?hd (cs := #[.int .i64 0, .int .i64 0, .int .i64 0, .int .i64 0, .int .i64 0, .slice none 0 0, .slice none 0 0, .slice none 0 0]) (t := 37) ?hr ?_; (case hd => rfl); (case hg => rfl); (case hr => first | (go_simp; done) | (go_simp; rfl)); intro gb164 hg w6 hbox hb; have n0_ := Aside0.mk (below_step ab1_ hb); have n1_ := Aside0.mk (hbox); have n2_ := Aside0.mk ((by rw [hg]; exact (below_size ab1_) : w.heap.size ≤ gb164)); have n3_ := Aside0.mk ((by rw [hg]; exact (below_size ab1_) : w.heap.size ≤ gb164)); clear HB; have HB := n0_; have BK164 := n1_; have GW164 := n2_; have GE164 := n3_; clear n0_ n1_ n2_ n3_; clear hb hbox hg; have hcz7_0 : w6.cell? ⟨gb164, 0, none⟩ = some (.int .i64 0) := (blk_cell BK164.out 0).trans rfl; have hcz7_1 : w6.cell? ⟨gb164, 1, none⟩ = some (.int .i64 0) := (blk_cell BK164.out 1).trans rfl; have hcz7_2 : w6.cell? ⟨gb164, 2, none⟩ = some (.int .i64 0) := (blk_cell BK164.out 2).trans rfl; have hcz7_3 : w6.cell? ⟨gb164, 3, none⟩ = some (.int .i64 0) := (blk_cell BK164.out 3).trans rfl; have hcz7_4 : w6.cell? ⟨gb164, 4, none⟩ = some (.int .i64 0) := (blk_cell BK164.out 4).trans rfl; have hcz7_5 : w6.cell? ⟨gb164, 5, none⟩ = some (.slice none 0 0) := (blk_cell BK164.out 5).trans rfl; have hcz7_6 : w6.cell? ⟨gb164, 6, none⟩ = some (.slice none 0 0) := (blk_cell BK164.out 6).trans rfl; have hcz7_7 : w6.cell? ⟨gb164, 7, none⟩ = some (.slice none 0 0) := (blk_cell BK164.out 7).trans rfl; have hfz7_0 := blk_frozen BK164.out 0; have hfz7_1 := blk_frozen BK164.out 1; have hfz7_2 := blk_frozen BK164.out 2; have hfz7_3 := blk_frozen BK164.out 3; have hfz7_4 := blk_frozen BK164.out 4; have hfz7_5 := blk_frozen BK164.out 5; have hfz7_6 := blk_frozen BK164.out 6; have hfz7_7 := blk_frozen BK164.out 7))
          (try simp only [Act.put, List.setIfInBounds_toArray, List.set_cons_zero, List.set_cons_succ])
          go_cut [30] (fun v30 wc => ∃ (kq : Nat) (x30_4 : Bool), v30 = .bool x30_4 ∧ Aside0 (spec_l12Boxes.j1 kq l0 a1 x5_1 x30_4 ((rd_T37 l0 x5_1).f0) ((rd_T37 l0 x5_1).f1) ((rd_T37 l0 x5_1).f2) ((rd_T37 l0 x5_1).f3.f0) ((rd_T37 l0 x5_1).f3.f1) ((rd_T37 l0 x5_1).f3.f2) ((rd_T37 l0 x5_1).f4) ((rd_T37 l0 x5_1).f5) = some r) ∧ Aside0 (kq ≤ k1) ∧ Aside0 (wc.heap[gb164]? = some (.cells #[.int .i64 ((rd_T37 l0 x5_1).f0), .int .i64 ((rd_T37 l0 x5_1).f1), .int .i64 ((rd_T37 l0 x5_1).f2), .int .i64 ((rd_T37 l0 x5_1).f3.f0), .int .i64 ((rd_T37 l0 x5_1).f3.f1), (.slice A163_5 ((rd_T37 l0 x5_1).f3.f2).length c163_5), (.slice A163_6 ((rd_T37 l0 x5_1).f4).length c163_6), (.slice A163_7 ((rd_T37 l0 x5_1).f5).length c163_7)] 37 (0, 0))) ∧ Aside0 (Below w.heap.size w wc))
          case first =>
            have H := HC5.out
            clear HC5
            by_cases c8 : ((rd_T37 l0 x5_1).f0) = 4
            · rw [if_pos c8] at H
              have c8b0 : (((rd_T37 l0 x5_1).f0) == 4) = true := beq_iff_eq.mpr c8
              have c8b1 : (((rd_T37 l0 x5_1).f0) != 4) = false := bne_eq_false_iff_eq.mpr c8
              clear c8
              (first | rw [c8b0] | (simp only [i64_w, i32_w]; rw [c8b0]) | skip)
              have H' := Aside0.mk H
              clear H
              have hcz9_0 : w6.cell? ⟨gb164, 0, none⟩ = some (.int .i64 0) := (blk_cell BK164.out 0).trans rfl
              have hcz9_1 : w6.cell? ⟨gb164, 1, none⟩ = some (.int .i64 0) := (blk_cell BK164.out 1).trans rfl
              have hcz9_2 : w6.cell? ⟨gb164, 2, none⟩ = some (.int .i64 0) := (blk_cell BK164.out 2).trans rfl
              have hcz9_3 : w6.cell? ⟨gb164, 3, none⟩ = some (.int .i64 0) := (blk_cell BK164.out 3).trans rfl
              have hcz9_4 : w6.cell? ⟨gb164, 4, none⟩ = some (.int .i64 0) := (blk_cell BK164.out 4).trans rfl
              have hcz9_5 : w6.cell? ⟨gb164, 5, none⟩ = some (.slice none 0 0) := (blk_cell BK164.out 5).trans rfl
              have hcz9_6 : w6.cell? ⟨gb164, 6, none⟩ = some (.slice none 0 0) := (blk_cell BK164.out 6).trans rfl
              have hcz9_7 : w6.cell? ⟨gb164, 7, none⟩ = some (.slice none 0 0) := (blk_cell BK164.out 7).trans rfl
              have hfz9_0 := blk_frozen BK164.out 0
              have hfz9_1 := blk_frozen BK164.out 1
              have hfz9_2 := blk_frozen BK164.out 2
              have hfz9_3 := blk_frozen BK164.out 3
              have hfz9_4 := blk_frozen BK164.out 4
              have hfz9_5 := blk_frozen BK164.out 5
              have hfz9_6 := blk_frozen BK164.out 6
              have hfz9_7 := blk_frozen BK164.out 7
              go_wp2
              go_meet
              case rel => exact ⟨_, (decide (((rd_T37 l0 x5_1).f2) ≥ a1)), (by first | rfl | (simp; done) | (simp [*]; done)), H', ⟨by have := HK1.out; first | omega | exact Nat.le_refl _⟩, ⟨by (with_reducible repeat (first | refine blk_drewN ?_ _ | refine blk_drew ?_ | refine blk_alloc ?_ _)); refine blk_put (cs := #[.int .i64 ((rd_T37 l0 x5_1).f0), .int .i64 ((rd_T37 l0 x5_1).f1), .int .i64 ((rd_T37 l0 x5_1).f2), .int .i64 ((rd_T37 l0 x5_1).f3.f0), .int .i64 ((rd_T37 l0 x5_1).f3.f1), .slice A163_5 ((rd_T37 l0 x5_1).f3.f2).length c163_5, .slice A163_6 ((rd_T37 l0 x5_1).f4).length c163_6, .slice none 0 0]) ?_ 7 _ rfl; (with_reducible repeat (first | refine blk_drewN ?_ _ | refine blk_drew ?_ | refine blk_alloc ?_ _)); refine blk_put (cs := #[.int .i64 ((rd_T37 l0 x5_1).f0), .int .i64 ((rd_T37 l0 x5_1).f1), .int .i64 ((rd_T37 l0 x5_1).f2), .int .i64 ((rd_T37 l0 x5_1).f3.f0), .int .i64 ((rd_T37 l0 x5_1).f3.f1), .slice A163_5 ((rd_T37 l0 x5_1).f3.f2).length c163_5, .slice none 0 0, .slice none 0 0]) ?_ 6 _ rfl; (with_reducible repeat (first | refine blk_drewN ?_ _ | refine blk_drew ?_ | refine blk_alloc ?_ _)); refine blk_put (cs := #[.int .i64 ((rd_T37 l0 x5_1).f0), .int .i64 ((rd_T37 l0 x5_1).f1), .int .i64 ((rd_T37 l0 x5_1).f2), .int .i64 ((rd_T37 l0 x5_1).f3.f0), .int .i64 ((rd_T37 l0 x5_1).f3.f1), .slice none 0 0, .slice none 0 0, .slice none 0 0]) ?_ 5 _ rfl; (with_reducible repeat (first | refine blk_drewN ?_ _ | refine blk_drew ?_ | refine blk_alloc ?_ _)); refine blk_put (cs := #[.int .i64 ((rd_T37 l0 x5_1).f0), .int .i64 ((rd_T37 l0 x5_1).f1), .int .i64 ((rd_T37 l0 x5_1).f2), .int .i64 ((rd_T37 l0 x5_1).f3.f0), .int .i64 0, .slice none 0 0, .slice none 0 0, .slice none 0 0]) ?_ 4 _ rfl; (with_reducible repeat (first | refine blk_drewN ?_ _ | refine blk_drew ?_ | refine blk_alloc ?_ _)); refine blk_put (cs := #[.int .i64 ((rd_T37 l0 x5_1).f0), .int .i64 ((rd_T37 l0 x5_1).f1), .int .i64 ((rd_T37 l0 x5_1).f2), .int .i64 0, .int .i64 0, .slice none 0 0, .slice none 0 0, .slice none 0 0]) ?_ 3 _ rfl; (with_reducible repeat (first | refine blk_drewN ?_ _ | refine blk_drew ?_ | refine blk_alloc ?_ _)); refine blk_put (cs := #[.int .i64 ((rd_T37 l0 x5_1).f0), .int .i64 ((rd_T37 l0 x5_1).f1), .int .i64 0, .int .i64 0, .int .i64 0, .slice none 0 0, .slice none 0 0, .slice none 0 0]) ?_ 2 _ rfl; (with_reducible repeat (first | refine blk_drewN ?_ _ | refine blk_drew ?_ | refine blk_alloc ?_ _)); refine blk_put (cs := #[.int .i64 ((rd_T37 l0 x5_1).f0), .int .i64 0, .int .i64 0, .int .i64 0, .int .i64 0, .slice none 0 0, .slice none 0 0, .slice none 0 0]) ?_ 1 _ rfl; (with_reducible repeat (first | refine blk_drewN ?_ _ | refine blk_drew ?_ | refine blk_alloc ?_ _)); refine blk_put (cs := #[.int .i64 0, .int .i64 0, .int .i64 0, .int .i64 0, .int .i64 0, .slice none 0 0, .slice none 0 0, .slice none 0 0]) ?_ 0 _ rfl; (with_reducible repeat (first | refine blk_drewN ?_ _ | refine blk_drew ?_ | refine blk_alloc ?_ _)); exact BK164.out⟩, ⟨ab13_⟩⟩
            · rw [if_neg c8] at H
              have c8b0 : (((rd_T37 l0 x5_1).f0) == 4) = false := beq_eq_false_iff_ne.mpr c8
              have c8b1 : (((rd_T37 l0 x5_1).f0) != 4) = true := bne_iff_ne.mpr c8
              (first | rw [c8b0] | (simp only [i64_w, i32_w]; rw [c8b0]) | skip)
              by_cases c10 : ((rd_T37 l0 x5_1).f0) = 5
              · rw [if_pos c10] at H
                have c10b0 : (((rd_T37 l0 x5_1).f0) == 5) = true := beq_iff_eq.mpr c10
                have c10b1 : (((rd_T37 l0 x5_1).f0) != 5) = false := bne_eq_false_iff_eq.mpr c10
                clear c10
                have H' := Aside0.mk H
                clear H
                have hcz11_0 : w6.cell? ⟨gb164, 0, none⟩ = some (.int .i64 0) := (blk_cell BK164.out 0).trans rfl
                have hcz11_1 : w6.cell? ⟨gb164, 1, none⟩ = some (.int .i64 0) := (blk_cell BK164.out 1).trans rfl
                have hcz11_2 : w6.cell? ⟨gb164, 2, none⟩ = some (.int .i64 0) := (blk_cell BK164.out 2).trans rfl
                have hcz11_3 : w6.cell? ⟨gb164, 3, none⟩ = some (.int .i64 0) := (blk_cell BK164.out 3).trans rfl
                have hcz11_4 : w6.cell? ⟨gb164, 4, none⟩ = some (.int .i64 0) := (blk_cell BK164.out 4).trans rfl
                have hcz11_5 : w6.cell? ⟨gb164, 5, none⟩ = some (.slice none 0 0) := (blk_cell BK164.out 5).trans rfl
                have hcz11_6 : w6.cell? ⟨gb164, 6, none⟩ = some (.slice none 0 0) := (blk_cell BK164.out 6).trans rfl
                have hcz11_7 : w6.cell? ⟨gb164, 7, none⟩ = some (.slice none 0 0) := (blk_cell BK164.out 7).trans rfl
                have hfz11_0 := blk_frozen BK164.out 0
                have hfz11_1 := blk_frozen BK164.out 1
                have hfz11_2 := blk_frozen BK164.out 2
                have hfz11_3 := blk_frozen BK164.out 3
                have hfz11_4 := blk_frozen BK164.out 4
                have hfz11_5 := blk_frozen BK164.out 5
                have hfz11_6 := blk_frozen BK164.out 6
                have hfz11_7 := blk_frozen BK164.out 7
                go_wp2
                go_meet
                case rel => exact ⟨_, (decide (((rd_T37 l0 x5_1).f2) ≥ a1)), (by first | rfl | (simp; done) | (simp [*]; done)), H', ⟨by have := HK1.out; first | omega | exact Nat.le_refl _⟩, ⟨by (with_reducible repeat (first | refine blk_drewN ?_ _ | refine blk_drew ?_ | refine blk_alloc ?_ _)); refine blk_put (cs := #[.int .i64 ((rd_T37 l0 x5_1).f0), .int .i64 ((rd_T37 l0 x5_1).f1), .int .i64 ((rd_T37 l0 x5_1).f2), .int .i64 ((rd_T37 l0 x5_1).f3.f0), .int .i64 ((rd_T37 l0 x5_1).f3.f1), .slice A163_5 ((rd_T37 l0 x5_1).f3.f2).length c163_5, .slice A163_6 ((rd_T37 l0 x5_1).f4).length c163_6, .slice none 0 0]) ?_ 7 _ rfl; (with_reducible repeat (first | refine blk_drewN ?_ _ | refine blk_drew ?_ | refine blk_alloc ?_ _)); refine blk_put (cs := #[.int .i64 ((rd_T37 l0 x5_1).f0), .int .i64 ((rd_T37 l0 x5_1).f1), .int .i64 ((rd_T37 l0 x5_1).f2), .int .i64 ((rd_T37 l0 x5_1).f3.f0), .int .i64 ((rd_T37 l0 x5_1).f3.f1), .slice A163_5 ((rd_T37 l0 x5_1).f3.f2).length c163_5, .slice none 0 0, .slice none 0 0]) ?_ 6 _ rfl; (with_reducible repeat (first | refine blk_drewN ?_ _ | refine blk_drew ?_ | refine blk_alloc ?_ _)); refine blk_put (cs := #[.int .i64 ((rd_T37 l0 x5_1).f0), .int .i64 ((rd_T37 l0 x5_1).f1), .int .i64 ((rd_T37 l0 x5_1).f2), .int .i64 ((rd_T37 l0 x5_1).f3.f0), .int .i64 ((rd_T37 l0 x5_1).f3.f1), .slice none 0 0, .slice none 0 0, .slice none 0 0]) ?_ 5 _ rfl; (with_reducible repeat (first | refine blk_drewN ?_ _ | refine blk_drew ?_ | refine blk_alloc ?_ _)); refine blk_put (cs := #[.int .i64 ((rd_T37 l0 x5_1).f0), .int .i64 ((rd_T37 l0 x5_1).f1), .int .i64 ((rd_T37 l0 x5_1).f2), .int .i64 ((rd_T37 l0 x5_1).f3.f0), .int .i64 0, .slice none 0 0, .slice none 0 0, .slice none 0 0]) ?_ 4 _ rfl; (with_reducible repeat (first | refine blk_drewN ?_ _ | refine blk_drew ?_ | refine blk_alloc ?_ _)); refine blk_put (cs := #[.int .i64 ((rd_T37 l0 x5_1).f0), .int .i64 ((rd_T37 l0 x5_1).f1), .int .i64 ((rd_T37 l0 x5_1).f2), .int .i64 0, .int .i64 0, .slice none 0 0, .slice none 0 0, .slice none 0 0]) ?_ 3 _ rfl; (with_reducible repeat (first | refine blk_drewN ?_ _ | refine blk_drew ?_ | refine blk_alloc ?_ _)); refine blk_put (cs := #[.int .i64 ((rd_T37 l0 x5_1).f0), .int .i64 ((rd_T37 l0 x5_1).f1), .int .i64 0, .int .i64 0, .int .i64 0, .slice none 0 0, .slice none 0 0, .slice none 0 0]) ?_ 2 _ rfl; (with_reducible repeat (first | refine blk_drewN ?_ _ | refine blk_drew ?_ | refine blk_alloc ?_ _)); refine blk_put (cs := #[.int .i64 ((rd_T37 l0 x5_1).f0), .int .i64 0, .int .i64 0, .int .i64 0, .int .i64 0, .slice none 0 0, .slice none 0 0, .slice none 0 0]) ?_ 1 _ rfl; (with_reducible repeat (first | refine blk_drewN ?_ _ | refine blk_drew ?_ | refine blk_alloc ?_ _)); refine blk_put (cs := #[.int .i64 0, .int .i64 0, .int .i64 0, .int .i64 0, .int .i64 0, .slice none 0 0, .slice none 0 0, .slice none 0 0]) ?_ 0 _ rfl; (with_reducible repeat (first | refine blk_drewN ?_ _ | refine blk_drew ?_ | refine blk_alloc ?_ _)); exact BK164.out⟩, ⟨ab13_⟩⟩
              · rw [if_neg c10] at H
                have c10b0 : (((rd_T37 l0 x5_1).f0) == 5) = false := beq_eq_false_iff_ne.mpr c10
                have c10b1 : (((rd_T37 l0 x5_1).f0) != 5) = true := bne_iff_ne.mpr c10
                have H' := Aside0.mk H
                clear H
                have hcz12_0 : w6.cell? ⟨gb164, 0, none⟩ = some (.int .i64 0) := (blk_cell BK164.out 0).trans rfl
                have hcz12_1 : w6.cell? ⟨gb164, 1, none⟩ = some (.int .i64 0) := (blk_cell BK164.out 1).trans rfl
                have hcz12_2 : w6.cell? ⟨gb164, 2, none⟩ = some (.int .i64 0) := (blk_cell BK164.out 2).trans rfl
                have hcz12_3 : w6.cell? ⟨gb164, 3, none⟩ = some (.int .i64 0) := (blk_cell BK164.out 3).trans rfl
                have hcz12_4 : w6.cell? ⟨gb164, 4, none⟩ = some (.int .i64 0) := (blk_cell BK164.out 4).trans rfl
                have hcz12_5 : w6.cell? ⟨gb164, 5, none⟩ = some (.slice none 0 0) := (blk_cell BK164.out 5).trans rfl
                have hcz12_6 : w6.cell? ⟨gb164, 6, none⟩ = some (.slice none 0 0) := (blk_cell BK164.out 6).trans rfl
                have hcz12_7 : w6.cell? ⟨gb164, 7, none⟩ = some (.slice none 0 0) := (blk_cell BK164.out 7).trans rfl
                have hfz12_0 := blk_frozen BK164.out 0
                have hfz12_1 := blk_frozen BK164.out 1
                have hfz12_2 := blk_frozen BK164.out 2
                have hfz12_3 := blk_frozen BK164.out 3
                have hfz12_4 := blk_frozen BK164.out 4
                have hfz12_5 := blk_frozen BK164.out 5
                have hfz12_6 := blk_frozen BK164.out 6
                have hfz12_7 := blk_frozen BK164.out 7
                go_wp2
                go_meet
                case rel => exact ⟨_, (false), (by first | rfl | (simp; done) | (simp [*]; done)), H', ⟨by have := HK1.out; first | omega | exact Nat.le_refl _⟩, ⟨by (with_reducible repeat (first | refine blk_drewN ?_ _ | refine blk_drew ?_ | refine blk_alloc ?_ _)); refine blk_put (cs := #[.int .i64 ((rd_T37 l0 x5_1).f0), .int .i64 ((rd_T37 l0 x5_1).f1), .int .i64 ((rd_T37 l0 x5_1).f2), .int .i64 ((rd_T37 l0 x5_1).f3.f0), .int .i64 ((rd_T37 l0 x5_1).f3.f1), .slice A163_5 ((rd_T37 l0 x5_1).f3.f2).length c163_5, .slice A163_6 ((rd_T37 l0 x5_1).f4).length c163_6, .slice none 0 0]) ?_ 7 _ rfl; (with_reducible repeat (first | refine blk_drewN ?_ _ | refine blk_drew ?_ | refine blk_alloc ?_ _)); refine blk_put (cs := #[.int .i64 ((rd_T37 l0 x5_1).f0), .int .i64 ((rd_T37 l0 x5_1).f1), .int .i64 ((rd_T37 l0 x5_1).f2), .int .i64 ((rd_T37 l0 x5_1).f3.f0), .int .i64 ((rd_T37 l0 x5_1).f3.f1), .slice A163_5 ((rd_T37 l0 x5_1).f3.f2).length c163_5, .slice none 0 0, .slice none 0 0]) ?_ 6 _ rfl; (with_reducible repeat (first | refine blk_drewN ?_ _ | refine blk_drew ?_ | refine blk_alloc ?_ _)); refine blk_put (cs := #[.int .i64 ((rd_T37 l0 x5_1).f0), .int .i64 ((rd_T37 l0 x5_1).f1), .int .i64 ((rd_T37 l0 x5_1).f2), .int .i64 ((rd_T37 l0 x5_1).f3.f0), .int .i64 ((rd_T37 l0 x5_1).f3.f1), .slice none 0 0, .slice none 0 0, .slice none 0 0]) ?_ 5 _ rfl; (with_reducible repeat (first | refine blk_drewN ?_ _ | refine blk_drew ?_ | refine blk_alloc ?_ _)); refine blk_put (cs := #[.int .i64 ((rd_T37 l0 x5_1).f0), .int .i64 ((rd_T37 l0 x5_1).f1), .int .i64 ((rd_T37 l0 x5_1).f2), .int .i64 ((rd_T37 l0 x5_1).f3.f0), .int .i64 0, .slice none 0 0, .slice none 0 0, .slice none 0 0]) ?_ 4 _ rfl; (with_reducible repeat (first | refine blk_drewN ?_ _ | refine blk_drew ?_ | refine blk_alloc ?_ _)); refine blk_put (cs := #[.int .i64 ((rd_T37 l0 x5_1).f0), .int .i64 ((rd_T37 l0 x5_1).f1), .int .i64 ((rd_T37 l0 x5_1).f2), .int .i64 0, .int .i64 0, .slice none 0 0, .slice none 0 0, .slice none 0 0]) ?_ 3 _ rfl; (with_reducible repeat (first | refine blk_drewN ?_ _ | refine blk_drew ?_ | refine blk_alloc ?_ _)); refine blk_put (cs := #[.int .i64 ((rd_T37 l0 x5_1).f0), .int .i64 ((rd_T37 l0 x5_1).f1), .int .i64 0, .int .i64 0, .int .i64 0, .slice none 0 0, .slice none 0 0, .slice none 0 0]) ?_ 2 _ rfl; (with_reducible repeat (first | refine blk_drewN ?_ _ | refine blk_drew ?_ | refine blk_alloc ?_ _)); refine blk_put (cs := #[.int .i64 ((rd_T37 l0 x5_1).f0), .int .i64 0, .int .i64 0, .int .i64 0, .int .i64 0, .slice none 0 0, .slice none 0 0, .slice none 0 0]) ?_ 1 _ rfl; (with_reducible repeat (first | refine blk_drewN ?_ _ | refine blk_drew ?_ | refine blk_alloc ?_ _)); refine blk_put (cs := #[.int .i64 0, .int .i64 0, .int .i64 0, .int .i64 0, .int .i64 0, .slice none 0 0, .slice none 0 0, .slice none 0 0]) ?_ 0 _ rfl; (with_reducible repeat (first | refine blk_drewN ?_ _ | refine blk_drew ?_ | refine blk_alloc ?_ _)); exact BK164.out⟩, ⟨ab13_⟩⟩
          case rest =>
            clear HC5
            try clear c1
            try clear p1
            try clear q1
            try clear hx1
            try clear p2
            try clear c3
            try clear c3b0
            try clear c4
            try clear c4b0
            try clear c8
            try clear c8b0
            try clear c8b1
            try clear c10
            try clear c10b0
            try clear c10b1
            try clear hcz11_0
            try clear hcz11_1
            try clear hcz11_2
            try clear hcz11_3
            try clear hcz11_4
            try clear hcz11_5
            try clear hcz11_6
            try clear hcz11_7
            try clear hcz12_0
            try clear hcz12_1
            try clear hcz12_2
            try clear hcz12_3
            try clear hcz12_4
            try clear hcz12_5
            try clear hcz12_6
            try clear hcz12_7
            try clear hcz7_0
            try clear hcz7_1
            try clear hcz7_2
            try clear hcz7_3
            try clear hcz7_4
            try clear hcz7_5
            try clear hcz7_6
            try clear hcz7_7
            try clear hcz9_0
            try clear hcz9_1
            try clear hcz9_2
            try clear hcz9_3
            try clear hcz9_4
            try clear hcz9_5
            try clear hcz9_6
            try clear hcz9_7
            try clear hfz11_0
            try clear hfz11_1
            try clear hfz11_2
            try clear hfz11_3
            try clear hfz11_4
            try clear hfz11_5
            try clear hfz11_6
            try clear hfz11_7
            try clear hfz12_0
            try clear hfz12_1
            try clear hfz12_2
            try clear hfz12_3
            try clear hfz12_4
            try clear hfz12_5
            try clear hfz12_6
            try clear hfz12_7
            try clear hfz7_0
            try clear hfz7_1
            try clear hfz7_2
            try clear hfz7_3
            try clear hfz7_4
            try clear hfz7_5
            try clear hfz7_6
            try clear hfz7_7
            try clear hfz9_0
            try clear hfz9_1
            try clear hfz9_2
            try clear hfz9_3
            try clear hfz9_4
            try clear hfz9_5
            try clear hfz9_6
            try clear hfz9_7
            try clear hx163_0
            try clear hx163_1
            try clear hx163_2
            try clear hx163_3
            try clear hx163_4
            try clear hx163_5
            try clear hx163_6
            try clear hx163_7
            try clear p163
            try clear p2
            try clear q163
            obtain ⟨kq, x30_4, rfl, HA, HJ4, BK164, HB⟩ := hcut
            cases kq with
            | zero => exact absurd HA.out (by simp [spec_l12Boxes.j1])
            | succ kj4 =>
              have H := HA.out
              clear HA
              simp only [spec_l12Boxes.j1] at H
              by_cases c13 : x30_4 = true
              · subst c13
                have H1 : (some false) = some r := by rw [if_pos rfl] at H; exact H
                clear H
                have H := H1
                clear H1
                obtain rfl := Option.some.inj H
                go_wp2
                go_ret
                exact ⟨by first | rfl | (simp [errW_none, errW_some] <;> rfl) | (simp [*, errW_none, errW_some] <;> rfl), ab13_⟩
              · replace c13 := Bool.eq_false_iff.mpr c13
                subst c13
                have H1 : ((spec_l12Boxes.f kj4 ((rd_T37 l0 x5_1).f4) a1).bind fun t165 => (if t165 = true then ((spec_l12Boxes.f kj4 ((rd_T37 l0 x5_1).f5) a1).bind fun t166 => (if t166 = true then (spec_l12Boxes.l0 kj4 l0 a1 (wrap64 (x5_1 + 1))) else (some false))) else (some false))) = some r := by rw [if_neg (show ¬ (false = true) by decide)] at H; exact H
                clear H
                have H := H1
                clear H1
                replace H := Option.bind_eq_some_iff.mp H
                obtain ⟨t165, A140, H⟩ := H
                replace H : (if t165 = true then ((spec_l12Boxes.f kj4 ((rd_T37 l0 x5_1).f5) a1).bind fun t166 => (if t166 = true then (spec_l12Boxes.l0 kj4 l0 a1 (wrap64 (x5_1 + 1))) else (some false))) else (some false)) = some r := H
                have A14 := Aside0.mk A140
                clear A140
                by_cases c15 : t165 = true
                · subst c15
                  have H1 : ((spec_l12Boxes.f kj4 ((rd_T37 l0 x5_1).f5) a1).bind fun t166 => (if t166 = true then (spec_l12Boxes.l0 kj4 l0 a1 (wrap64 (x5_1 + 1))) else (some false))) = some r := by rw [if_pos rfl] at H; exact H
                  clear H
                  have H := H1
                  clear H1
                  replace H := Option.bind_eq_some_iff.mp H
                  obtain ⟨t166, A160, H⟩ := H
                  replace H : (if t166 = true then (spec_l12Boxes.l0 kj4 l0 a1 (wrap64 (x5_1 + 1))) else (some false)) = some r := H
                  have A16 := Aside0.mk A160
                  clear A160
                  by_cases c17 : t166 = true
                  · subst c17
                    have H1 : (spec_l12Boxes.l0 kj4 l0 a1 (wrap64 (x5_1 + 1))) = some r := by rw [if_pos rfl] at H; exact H
                    clear H
                    have H := H1
                    clear H1
                    have H' := Aside0.mk H
                    clear H
                    have hcz18_0 : wc.cell? ⟨gb164, 0, none⟩ = some (.int .i64 ((rd_T37 l0 x5_1).f0)) := (blk_cell BK164.out 0).trans rfl
                    have hcz18_1 : wc.cell? ⟨gb164, 1, none⟩ = some (.int .i64 ((rd_T37 l0 x5_1).f1)) := (blk_cell BK164.out 1).trans rfl
                    have hcz18_2 : wc.cell? ⟨gb164, 2, none⟩ = some (.int .i64 ((rd_T37 l0 x5_1).f2)) := (blk_cell BK164.out 2).trans rfl
                    have hcz18_3 : wc.cell? ⟨gb164, 3, none⟩ = some (.int .i64 ((rd_T37 l0 x5_1).f3.f0)) := (blk_cell BK164.out 3).trans rfl
                    have hcz18_4 : wc.cell? ⟨gb164, 4, none⟩ = some (.int .i64 ((rd_T37 l0 x5_1).f3.f1)) := (blk_cell BK164.out 4).trans rfl
                    have hcz18_5 : wc.cell? ⟨gb164, 5, none⟩ = some (.slice A163_5 ((rd_T37 l0 x5_1).f3.f2).length c163_5) := (blk_cell BK164.out 5).trans rfl
                    have hcz18_6 : wc.cell? ⟨gb164, 6, none⟩ = some (.slice A163_6 ((rd_T37 l0 x5_1).f4).length c163_6) := (blk_cell BK164.out 6).trans rfl
                    have hcz18_7 : wc.cell? ⟨gb164, 7, none⟩ = some (.slice A163_7 ((rd_T37 l0 x5_1).f5).length c163_7) := (blk_cell BK164.out 7).trans rfl
                    have hfz18_0 := blk_frozen BK164.out 0
                    have hfz18_1 := blk_frozen BK164.out 1
                    have hfz18_2 := blk_frozen BK164.out 2
                    have hfz18_3 := blk_frozen BK164.out 3
                    have hfz18_4 := blk_frozen BK164.out 4
                    have hfz18_5 := blk_frozen BK164.out 5
                    have hfz18_6 := blk_frozen BK164.out 6
                    have hfz18_7 := blk_frozen BK164.out 7
                    go_wp2_with (first | ((with_reducible refine gate_callee (f := 36) rfl ?_); refine goesL_ (some 34) rfl rfl Try.func36 (by kernel_rfl) rfl #[.slice A163_6 ((rd_T37 l0 x5_1).f4).length c163_6, .int .i64 a1] rfl ab2_ ?_; (with_reducible refine (ih kj4 (by have := HK1.out; have := HJ4.out; omega) _ _ ((rd_T37 l0 x5_1).f4) a1 true _ ?side1 ?side2 A14.out).mono ?_); (case side1 => repeat (first | exact (Kd.C_below HR163_6.out HB.out) | (with_reducible refine Kd.C_alloc ?_ _) | (with_reducible refine Kd.C_drewN ?_ _) | (with_reducible refine Kd.C_drew ?_))); (case side2 => exact HC163_6.out); rintro e w19 ⟨rfl, hb⟩; refine ⟨_, rfl, ?_⟩; have n0_ := Aside0.mk (blk_below (g := gb164) (o := .cells #[.int .i64 ((rd_T37 l0 x5_1).f0), .int .i64 ((rd_T37 l0 x5_1).f1), .int .i64 ((rd_T37 l0 x5_1).f2), .int .i64 ((rd_T37 l0 x5_1).f3.f0), .int .i64 ((rd_T37 l0 x5_1).f3.f1), .slice A163_5 ((rd_T37 l0 x5_1).f3.f2).length c163_5, .slice A163_6 ((rd_T37 l0 x5_1).f4).length c163_6, .slice A163_7 ((rd_T37 l0 x5_1).f5).length c163_7] 37 (0, 0)) (aG_ BK164.out) hb); have n1_ := Aside0.mk (below_step ab13_ hb); clear BK164; clear HB; have BK164 := n0_; have HB := n1_; clear n0_ n1_; (try clear hb); (try clear hb2); (try clear hk); (try clear hi); have hcz20_0 : w19.cell? ⟨gb164, 0, none⟩ = some (.int .i64 ((rd_T37 l0 x5_1).f0)) := (blk_cell BK164.out 0).trans rfl; have hcz20_1 : w19.cell? ⟨gb164, 1, none⟩ = some (.int .i64 ((rd_T37 l0 x5_1).f1)) := (blk_cell BK164.out 1).trans rfl; have hcz20_2 : w19.cell? ⟨gb164, 2, none⟩ = some (.int .i64 ((rd_T37 l0 x5_1).f2)) := (blk_cell BK164.out 2).trans rfl; have hcz20_3 : w19.cell? ⟨gb164, 3, none⟩ = some (.int .i64 ((rd_T37 l0 x5_1).f3.f0)) := (blk_cell BK164.out 3).trans rfl; have hcz20_4 : w19.cell? ⟨gb164, 4, none⟩ = some (.int .i64 ((rd_T37 l0 x5_1).f3.f1)) := (blk_cell BK164.out 4).trans rfl; have hcz20_5 : w19.cell? ⟨gb164, 5, none⟩ = some (.slice A163_5 ((rd_T37 l0 x5_1).f3.f2).length c163_5) := (blk_cell BK164.out 5).trans rfl; have hcz20_6 : w19.cell? ⟨gb164, 6, none⟩ = some (.slice A163_6 ((rd_T37 l0 x5_1).f4).length c163_6) := (blk_cell BK164.out 6).trans rfl; have hcz20_7 : w19.cell? ⟨gb164, 7, none⟩ = some (.slice A163_7 ((rd_T37 l0 x5_1).f5).length c163_7) := (blk_cell BK164.out 7).trans rfl; have hfz20_0 := blk_frozen BK164.out 0; have hfz20_1 := blk_frozen BK164.out 1; have hfz20_2 := blk_frozen BK164.out 2; have hfz20_3 := blk_frozen BK164.out 3; have hfz20_4 := blk_frozen BK164.out 4; have hfz20_5 := blk_frozen BK164.out 5; have hfz20_6 := blk_frozen BK164.out 6; have hfz20_7 := blk_frozen BK164.out 7) | (go_at_call 36; (with_reducible refine (ih kj4 (by have := HK1.out; have := HJ4.out; omega) _ _ ((rd_T37 l0 x5_1).f5) a1 true _ ?side1 ?side2 A16.out).mono ?_); (case side1 => repeat (first | exact (Kd.C_below HR163_7.out HB.out) | (with_reducible refine Kd.C_alloc ?_ _) | (with_reducible refine Kd.C_drewN ?_ _) | (with_reducible refine Kd.C_drew ?_))); (case side2 => exact HC163_7.out); rintro e w21 ⟨rfl, hb⟩; have n0_ := Aside0.mk (blk_below (g := gb164) (o := .cells #[.int .i64 ((rd_T37 l0 x5_1).f0), .int .i64 ((rd_T37 l0 x5_1).f1), .int .i64 ((rd_T37 l0 x5_1).f2), .int .i64 ((rd_T37 l0 x5_1).f3.f0), .int .i64 ((rd_T37 l0 x5_1).f3.f1), .slice A163_5 ((rd_T37 l0 x5_1).f3.f2).length c163_5, .slice A163_6 ((rd_T37 l0 x5_1).f4).length c163_6, .slice A163_7 ((rd_T37 l0 x5_1).f5).length c163_7] 37 (0, 0)) (aG_ BK164.out) hb); have n1_ := Aside0.mk (below_step ab13_ hb); clear BK164; clear HB; have BK164 := n0_; have HB := n1_; clear n0_ n1_; (try clear hb); (try clear hb2); (try clear hk); (try clear hi)))
                    go_roundg kj4
                    case measure => have := HK1.out; have := HJ4.out; omega
                    case rel => exact ⟨(wrap64 (x5_1 + 1)), (by first | rfl | (simp; done) | (simp [*]; done)), H', ⟨by have := HK1.out; have := HJ4.out; omega⟩, ⟨ab13_⟩⟩
                  · replace c17 := Bool.eq_false_iff.mpr c17
                    subst c17
                    have H1 : (some false) = some r := by rw [if_neg (show ¬ (false = true) by decide)] at H; exact H
                    clear H
                    have H := H1
                    clear H1
                    obtain rfl := Option.some.inj H
                    have hcz22_0 : wc.cell? ⟨gb164, 0, none⟩ = some (.int .i64 ((rd_T37 l0 x5_1).f0)) := (blk_cell BK164.out 0).trans rfl
                    have hcz22_1 : wc.cell? ⟨gb164, 1, none⟩ = some (.int .i64 ((rd_T37 l0 x5_1).f1)) := (blk_cell BK164.out 1).trans rfl
                    have hcz22_2 : wc.cell? ⟨gb164, 2, none⟩ = some (.int .i64 ((rd_T37 l0 x5_1).f2)) := (blk_cell BK164.out 2).trans rfl
                    have hcz22_3 : wc.cell? ⟨gb164, 3, none⟩ = some (.int .i64 ((rd_T37 l0 x5_1).f3.f0)) := (blk_cell BK164.out 3).trans rfl
                    have hcz22_4 : wc.cell? ⟨gb164, 4, none⟩ = some (.int .i64 ((rd_T37 l0 x5_1).f3.f1)) := (blk_cell BK164.out 4).trans rfl
                    have hcz22_5 : wc.cell? ⟨gb164, 5, none⟩ = some (.slice A163_5 ((rd_T37 l0 x5_1).f3.f2).length c163_5) := (blk_cell BK164.out 5).trans rfl
                    have hcz22_6 : wc.cell? ⟨gb164, 6, none⟩ = some (.slice A163_6 ((rd_T37 l0 x5_1).f4).length c163_6) := (blk_cell BK164.out 6).trans rfl
                    have hcz22_7 : wc.cell? ⟨gb164, 7, none⟩ = some (.slice A163_7 ((rd_T37 l0 x5_1).f5).length c163_7) := (blk_cell BK164.out 7).trans rfl
                    have hfz22_0 := blk_frozen BK164.out 0
                    have hfz22_1 := blk_frozen BK164.out 1
                    have hfz22_2 := blk_frozen BK164.out 2
                    have hfz22_3 := blk_frozen BK164.out 3
                    have hfz22_4 := blk_frozen BK164.out 4
                    have hfz22_5 := blk_frozen BK164.out 5
                    have hfz22_6 := blk_frozen BK164.out 6
                    have hfz22_7 := blk_frozen BK164.out 7
                    go_wp2_with (first | ((with_reducible refine gate_callee (f := 36) rfl ?_); refine goesL_ (some 34) rfl rfl Try.func36 (by kernel_rfl) rfl #[.slice A163_6 ((rd_T37 l0 x5_1).f4).length c163_6, .int .i64 a1] rfl ab2_ ?_; (with_reducible refine (ih kj4 (by have := HK1.out; have := HJ4.out; omega) _ _ ((rd_T37 l0 x5_1).f4) a1 true _ ?side1 ?side2 A14.out).mono ?_); (case side1 => repeat (first | exact (Kd.C_below HR163_6.out HB.out) | (with_reducible refine Kd.C_alloc ?_ _) | (with_reducible refine Kd.C_drewN ?_ _) | (with_reducible refine Kd.C_drew ?_))); (case side2 => exact HC163_6.out); rintro e w23 ⟨rfl, hb⟩; refine ⟨_, rfl, ?_⟩; have n0_ := Aside0.mk (blk_below (g := gb164) (o := .cells #[.int .i64 ((rd_T37 l0 x5_1).f0), .int .i64 ((rd_T37 l0 x5_1).f1), .int .i64 ((rd_T37 l0 x5_1).f2), .int .i64 ((rd_T37 l0 x5_1).f3.f0), .int .i64 ((rd_T37 l0 x5_1).f3.f1), .slice A163_5 ((rd_T37 l0 x5_1).f3.f2).length c163_5, .slice A163_6 ((rd_T37 l0 x5_1).f4).length c163_6, .slice A163_7 ((rd_T37 l0 x5_1).f5).length c163_7] 37 (0, 0)) (aG_ BK164.out) hb); have n1_ := Aside0.mk (below_step ab13_ hb); clear BK164; clear HB; have BK164 := n0_; have HB := n1_; clear n0_ n1_; (try clear hb); (try clear hb2); (try clear hk); (try clear hi); have hcz24_0 : w23.cell? ⟨gb164, 0, none⟩ = some (.int .i64 ((rd_T37 l0 x5_1).f0)) := (blk_cell BK164.out 0).trans rfl; have hcz24_1 : w23.cell? ⟨gb164, 1, none⟩ = some (.int .i64 ((rd_T37 l0 x5_1).f1)) := (blk_cell BK164.out 1).trans rfl; have hcz24_2 : w23.cell? ⟨gb164, 2, none⟩ = some (.int .i64 ((rd_T37 l0 x5_1).f2)) := (blk_cell BK164.out 2).trans rfl; have hcz24_3 : w23.cell? ⟨gb164, 3, none⟩ = some (.int .i64 ((rd_T37 l0 x5_1).f3.f0)) := (blk_cell BK164.out 3).trans rfl; have hcz24_4 : w23.cell? ⟨gb164, 4, none⟩ = some (.int .i64 ((rd_T37 l0 x5_1).f3.f1)) := (blk_cell BK164.out 4).trans rfl; have hcz24_5 : w23.cell? ⟨gb164, 5, none⟩ = some (.slice A163_5 ((rd_T37 l0 x5_1).f3.f2).length c163_5) := (blk_cell BK164.out 5).trans rfl; have hcz24_6 : w23.cell? ⟨gb164, 6, none⟩ = some (.slice A163_6 ((rd_T37 l0 x5_1).f4).length c163_6) := (blk_cell BK164.out 6).trans rfl; have hcz24_7 : w23.cell? ⟨gb164, 7, none⟩ = some (.slice A163_7 ((rd_T37 l0 x5_1).f5).length c163_7) := (blk_cell BK164.out 7).trans rfl; have hfz24_0 := blk_frozen BK164.out 0; have hfz24_1 := blk_frozen BK164.out 1; have hfz24_2 := blk_frozen BK164.out 2; have hfz24_3 := blk_frozen BK164.out 3; have hfz24_4 := blk_frozen BK164.out 4; have hfz24_5 := blk_frozen BK164.out 5; have hfz24_6 := blk_frozen BK164.out 6; have hfz24_7 := blk_frozen BK164.out 7) | (go_at_call 36; (with_reducible refine (ih kj4 (by have := HK1.out; have := HJ4.out; omega) _ _ ((rd_T37 l0 x5_1).f5) a1 false _ ?side1 ?side2 A16.out).mono ?_); (case side1 => repeat (first | exact (Kd.C_below HR163_7.out HB.out) | (with_reducible refine Kd.C_alloc ?_ _) | (with_reducible refine Kd.C_drewN ?_ _) | (with_reducible refine Kd.C_drew ?_))); (case side2 => exact HC163_7.out); rintro e w25 ⟨rfl, hb⟩; have n0_ := Aside0.mk (blk_below (g := gb164) (o := .cells #[.int .i64 ((rd_T37 l0 x5_1).f0), .int .i64 ((rd_T37 l0 x5_1).f1), .int .i64 ((rd_T37 l0 x5_1).f2), .int .i64 ((rd_T37 l0 x5_1).f3.f0), .int .i64 ((rd_T37 l0 x5_1).f3.f1), .slice A163_5 ((rd_T37 l0 x5_1).f3.f2).length c163_5, .slice A163_6 ((rd_T37 l0 x5_1).f4).length c163_6, .slice A163_7 ((rd_T37 l0 x5_1).f5).length c163_7] 37 (0, 0)) (aG_ BK164.out) hb); have n1_ := Aside0.mk (below_step ab13_ hb); clear BK164; clear HB; have BK164 := n0_; have HB := n1_; clear n0_ n1_; (try clear hb); (try clear hb2); (try clear hk); (try clear hi)))
                    go_ret
                    exact ⟨by first | rfl | (simp [errW_none, errW_some] <;> rfl) | (simp [*, errW_none, errW_some] <;> rfl), ab13_⟩
                · replace c15 := Bool.eq_false_iff.mpr c15
                  subst c15
                  have H1 : (some false) = some r := by rw [if_neg (show ¬ (false = true) by decide)] at H; exact H
                  clear H
                  have H := H1
                  clear H1
                  obtain rfl := Option.some.inj H
                  have hcz26_0 : wc.cell? ⟨gb164, 0, none⟩ = some (.int .i64 ((rd_T37 l0 x5_1).f0)) := (blk_cell BK164.out 0).trans rfl
                  have hcz26_1 : wc.cell? ⟨gb164, 1, none⟩ = some (.int .i64 ((rd_T37 l0 x5_1).f1)) := (blk_cell BK164.out 1).trans rfl
                  have hcz26_2 : wc.cell? ⟨gb164, 2, none⟩ = some (.int .i64 ((rd_T37 l0 x5_1).f2)) := (blk_cell BK164.out 2).trans rfl
                  have hcz26_3 : wc.cell? ⟨gb164, 3, none⟩ = some (.int .i64 ((rd_T37 l0 x5_1).f3.f0)) := (blk_cell BK164.out 3).trans rfl
                  have hcz26_4 : wc.cell? ⟨gb164, 4, none⟩ = some (.int .i64 ((rd_T37 l0 x5_1).f3.f1)) := (blk_cell BK164.out 4).trans rfl
                  have hcz26_5 : wc.cell? ⟨gb164, 5, none⟩ = some (.slice A163_5 ((rd_T37 l0 x5_1).f3.f2).length c163_5) := (blk_cell BK164.out 5).trans rfl
                  have hcz26_6 : wc.cell? ⟨gb164, 6, none⟩ = some (.slice A163_6 ((rd_T37 l0 x5_1).f4).length c163_6) := (blk_cell BK164.out 6).trans rfl
                  have hcz26_7 : wc.cell? ⟨gb164, 7, none⟩ = some (.slice A163_7 ((rd_T37 l0 x5_1).f5).length c163_7) := (blk_cell BK164.out 7).trans rfl
                  have hfz26_0 := blk_frozen BK164.out 0
                  have hfz26_1 := blk_frozen BK164.out 1
                  have hfz26_2 := blk_frozen BK164.out 2
                  have hfz26_3 := blk_frozen BK164.out 3
                  have hfz26_4 := blk_frozen BK164.out 4
                  have hfz26_5 := blk_frozen BK164.out 5
                  have hfz26_6 := blk_frozen BK164.out 6
                  have hfz26_7 := blk_frozen BK164.out 7
                  go_wp2_with (first | ((with_reducible refine gate_callee (f := 36) rfl ?_); refine goesL_ (some 34) rfl rfl Try.func36 (by kernel_rfl) rfl #[.slice A163_6 ((rd_T37 l0 x5_1).f4).length c163_6, .int .i64 a1] rfl ab2_ ?_; (with_reducible refine (ih kj4 (by have := HK1.out; have := HJ4.out; omega) _ _ ((rd_T37 l0 x5_1).f4) a1 false _ ?side1 ?side2 A14.out).mono ?_); (case side1 => repeat (first | exact (Kd.C_below HR163_6.out HB.out) | (with_reducible refine Kd.C_alloc ?_ _) | (with_reducible refine Kd.C_drewN ?_ _) | (with_reducible refine Kd.C_drew ?_))); (case side2 => exact HC163_6.out); rintro e w27 ⟨rfl, hb⟩; refine ⟨_, rfl, ?_⟩; have n0_ := Aside0.mk (blk_below (g := gb164) (o := .cells #[.int .i64 ((rd_T37 l0 x5_1).f0), .int .i64 ((rd_T37 l0 x5_1).f1), .int .i64 ((rd_T37 l0 x5_1).f2), .int .i64 ((rd_T37 l0 x5_1).f3.f0), .int .i64 ((rd_T37 l0 x5_1).f3.f1), .slice A163_5 ((rd_T37 l0 x5_1).f3.f2).length c163_5, .slice A163_6 ((rd_T37 l0 x5_1).f4).length c163_6, .slice A163_7 ((rd_T37 l0 x5_1).f5).length c163_7] 37 (0, 0)) (aG_ BK164.out) hb); have n1_ := Aside0.mk (below_step ab13_ hb); clear BK164; clear HB; have BK164 := n0_; have HB := n1_; clear n0_ n1_; (try clear hb); (try clear hb2); (try clear hk); (try clear hi)))
                  go_ret
                  exact ⟨by first | rfl | (simp [errW_none, errW_some] <;> rfl) | (simp [*, errW_none, errW_some] <;> rfl), ab13_⟩
        · rw [if_neg c4] at H
          exact absurd H (by simp)
      · rw [if_neg c3] at H
        have c3b0 : decide (x5_1 < (l0.length : Int)) = false := decide_eq_false c3
        clear c3
        obtain rfl := Option.some.inj H
        go_wp2
        go_ret
        exact ⟨by first | rfl | (simp [errW_none, errW_some] <;> rfl) | (simp [*, errW_none, errW_some] <;> rfl), ab1_⟩

end Go.Proofs.Ytpcbfcaacilghaa.PA

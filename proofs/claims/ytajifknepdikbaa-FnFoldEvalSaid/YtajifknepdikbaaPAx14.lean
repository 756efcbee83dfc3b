-- made by a program of this session (wip/myprint.py over the kit's print)
import Derived.Test.YtajifknepdikbaaV
import Derived.Test.YtajifknepdikbaaPAx0
import Derived.Test.YtajifknepdikbaaPAx1
import Derived.Test.YtajifknepdikbaaPAx13
namespace Go.Proofs.Ytajifknepdikbaa.PA
open Go.RowKit Go.Proofs.YtajifknepdikbaaW.PrintWords Go.Proofs.YtajifknepdikbaaW.PrintLast Go.Proofs.YtajifknepdikbaaW.PrintMore
attribute [local go_sem] max2_int min2_int max_two min_two max_three min_three max_four min_four   -- for this text's walks alone
set_option linter.unusedVariables false
set_option linter.unusedSimpArgs false

/-! ### impl_exprFold: function 56 -/
theorem impl_exprFold.mono_l : ∀ k, (∀ y0 y1 y2, LeO (impl_exprFold.f k y0 y1 y2) (impl_exprFold.f (k + 1) y0 y1 y2)) ∧ (∀ y0 y1 y2 y3 y4 y5 y6 y7 y8 y9, LeO (impl_exprFold.j0 k y0 y1 y2 y3 y4 y5 y6 y7 y8 y9) (impl_exprFold.j0 (k + 1) y0 y1 y2 y3 y4 y5 y6 y7 y8 y9))
  | 0 => ⟨fun _ _ _ r h => by simp [impl_exprFold.f] at h, fun _ _ _ _ _ _ _ _ _ _ r h => by simp [impl_exprFold.j0] at h⟩
  | k + 1 => by
    obtain ⟨ih0, ih1⟩ := impl_exprFold.mono_l k
    refine ⟨?_, ?_⟩
    · intro y0 y1 y2
      unfold impl_exprFold.f
      repeat' first
      | (with_reducible exact ih0 _ _ _)
      | (with_reducible exact ih1 _ _ _ _ _ _ _ _ _ _)
      | (with_reducible exact LeO.refl _)
      | (with_reducible exact LeO.none _)
      | (with_reducible refine LeO.ite ?_ ?_)
      | (with_reducible refine LeO.bind ?_ (fun _ => ?_))
      | exact ih0 _ _ _
      | exact ih1 _ _ _ _ _ _ _ _ _ _
      | exact LeO.none _
      | refine LeO.ite ?_ ?_
      | refine LeO.bind ?_ (fun _ => ?_)
    · intro y0 y1 y2 y3 y4 y5 y6 y7 y8 y9
      unfold impl_exprFold.j0
      repeat' first
      | (with_reducible exact ih0 _ _ _)
      | (with_reducible exact ih1 _ _ _ _ _ _ _ _ _ _)
      | (with_reducible exact LeO.refl _)
      | (with_reducible exact LeO.none _)
      | (with_reducible refine LeO.ite ?_ ?_)
      | (with_reducible refine LeO.bind ?_ (fun _ => ?_))
      | exact ih0 _ _ _
      | exact ih1 _ _ _ _ _ _ _ _ _ _
      | exact LeO.none _
      | refine LeO.ite ?_ ?_
      | refine LeO.bind ?_ (fun _ => ?_)
theorem impl_exprFold.mono : ∀ a0 a1 a2 k, LeO (impl_exprFold.f k a0 a1 a2) (impl_exprFold.f (k + 1) a0 a1 a2) := by
  intro a0 a1 a2 k
  obtain ⟨ih0, ih1⟩ := impl_exprFold.mono_l k
  exact ih0 a0 a1 a2
def impl_exprFold.T3 : Bool × List (List Nat × List Nat) := (true, [([], []), ([0], [0]), ([1], [1]), ([2], [2]), ([3], [3]), ([], []), ([5], [5]), ([6], [6]), ([7], [7]), ([8, 4], [8]), ([], []), ([], []), ([10, 4, 9, 0, 1, 2, 3, 4, 10, 11], [4, 10]), ([11, 9, 12, 0, 1, 2, 3, 4, 5, 6, 7, 8, 9, 10, 11, 12], [9, 11])])
def impl_exprFold.B3 : List Nat := [0, 1, 3, 7, 15, 0, 32, 96, 224, 511, 0, 0, 4095, 8191]
theorem impl_exprFold.tab3 : rtab .any (opsOf Try.f56 3) = impl_exprFold.T3 := by kernel_rfl
theorem impl_exprFold.bits3 : waitsOk impl_exprFold.T3.2 impl_exprFold.B3 = true := by kernel_rfl
set_option maxHeartbeats 8000000 in
set_option maxRecDepth 100000 in
theorem impl_exprFold.calls (k : Nat) : ∀ (a0_0 : Int) (a0_1 : Int) (A0_2 : Option Addr) (c0_2 : Nat) (l0_2 : List (S25)) (r1 : Int) (r2 : Int) (r3 : List (S25)) (w : World) (hr0_2 : Kd.C k25 w A0_2 l0_2.length l0_2) (hc0_2 : l0_2.length ≤ c0_2) (h : impl_exprFold.f k a0_0 a0_1 l0_2 = some (r1, r2, r3)),
    Calls Try.prog 56 #[.agg #[.int .i64 a0_0, .int .i64 a0_1, .slice A0_2 l0_2.length c0_2]] w fun e w' => ∃ v2_ : Value, e = .returned (.agg #[.int .i64 r1, .int .i64 r2, v2_]) ∧ Kd.N k25 25 w' w.heap.size (fun k_ => (w.heap.size ≤ k_)) v2_ r3 ∧ Below w.heap.size w w' := by
  induction k using Nat.strongRecOn with
  | _ k ih =>
  intro a0_0 a0_1 A0_2 c0_2 l0_2 r1 r2 r3 w hr0_2 hc0_2 h
  cases k with
  | zero => exact absurd h (by simp [impl_exprFold.f])
  | succ k =>
  simp only [impl_exprFold.f] at h
  have hu25 := Try.underlying25
  have HR0_2 := Aside0.mk hr0_2
  have HC0_2 := Aside0.mk hc0_2
  clear hr0_2 hc0_2
  have HB := Aside0.mk (Below.refl w.heap.size w)
  have H : (if (l0_2.length : Int) = 0 then (some (a0_0, a0_1, ([] : List (S25)))) else (if 0 < (l0_2.length : Int) then ((impl_exprFold.f k ((rd_T25 l0_2 0).f0) ((rd_T25 l0_2 0).f1) ((rd_T25 l0_2 0).f2)).bind fun bt209 => (if 1 < (l0_2.length : Int) then ((impl_exprFold.f k ((rd_T25 l0_2 1).f0) ((rd_T25 l0_2 1).f1) ((rd_T25 l0_2 1).f2)).bind fun bt215 => (if bt209.1 = 0 then (impl_exprFold.j0 k (bt215.1 == 0) a0_0 a0_1 l0_2 bt209.1 bt209.2.1 bt209.2.2 bt215.1 bt215.2.1 bt215.2.2) else (impl_exprFold.j0 k false a0_0 a0_1 l0_2 bt209.1 bt209.2.1 bt209.2.2 bt215.1 bt215.2.1 bt215.2.2))) else (none))) else (none))) = some (r1, r2, r3) := h
  clear h
  by_cases c2 : (l0_2.length : Int) = 0
  · rw [if_pos c2] at H
    have c2b0 : ((l0_2.length : Int) == 0) = true := beq_iff_eq.mpr c2
    have c2b1 : ((l0_2.length : Int) != 0) = false := bne_eq_false_iff_eq.mpr c2
    clear c2
    simp only [Option.some.injEq, Prod.mk.injEq] at H
    obtain ⟨rfl, rfl, rfl⟩ := H
    go_enter Try.func56, Try.ntmps56
    go_wp2_with (first | ((with_reducible refine gate_dst (N := 1) rfl ?_); refine box_event ?hg (N := 1) ?hd (cs := #[.int .i64 a0_0, .int .i64 a0_1, .slice A0_2 l0_2.length c0_2]) (t := 25) ?hr ?_; (case hd => rfl); (case hg => rfl); (case hr => first | (go_simp; done) | (go_simp; rfl)); intro gb206 hg w3 hbox hb; have n0_ := Aside0.mk (below_step ab2_ hb); have n1_ := Aside0.mk (hbox); have n2_ := Aside0.mk ((by rw [hg]; exact (below_size ab2_) : w.heap.size ≤ gb206)); have n3_ := Aside0.mk ((by rw [hg]; exact (below_size ab2_) : w.heap.size ≤ gb206)); clear HB; have HB := n0_; have BK206 := n1_; have GW206 := n2_; have GE206 := n3_; clear n0_ n1_ n2_ n3_; clear hb hbox hg) | ((with_reducible refine gate_dst (N := 2) rfl ?_); refine box_event ?hg (N := 2) ?hd (cs := #[.int .i64 0, .int .i64 0, .slice none 0 0]) (t := 25) ?hr ?_; (case hd => rfl); (case hg => rfl); (case hr => first | (go_simp; done) | (go_simp; rfl)); intro gb207 hg w4 hbox hb; have n0_ := Aside0.mk (blk_below (g := gb206) (o := .cells #[.int .i64 a0_0, .int .i64 a0_1, .slice A0_2 l0_2.length c0_2] 25 (0, 0)) (aG_ BK206.out) hb); have n1_ := Aside0.mk (below_step ab44_ hb); have n2_ := Aside0.mk (hbox); have n3_ := Aside0.mk ((by rw [hg]; exact (below_size ab44_) : w.heap.size ≤ gb207)); have n4_ := Aside0.mk ((by rw [hg]; exact (below_size ab44_) : w.heap.size ≤ gb207)); have n5_ := Aside0.mk ((by rw [hg]; exact Nat.ne_of_lt (blk_lt (g := gb206) (o := .cells #[.int .i64 a0_0, .int .i64 a0_1, .slice A0_2 l0_2.length c0_2] 25 (0, 0)) (aG_ BK206.out)) : gb206 ≠ gb207)); have n6_ := Aside0.mk ((by rw [hg]; exact Nat.ne_of_gt (blk_lt (g := gb206) (o := .cells #[.int .i64 a0_0, .int .i64 a0_1, .slice A0_2 l0_2.length c0_2] 25 (0, 0)) (aG_ BK206.out)) : gb207 ≠ gb206)); clear BK206; clear HB; have BK206 := n0_; have HB := n1_; have BK207 := n2_; have GW207 := n3_; have GE207 := n4_; have NB206_207 := n5_; have NB207_206 := n6_; clear n0_ n1_ n2_ n3_ n4_ n5_ n6_; clear hb hbox hg; have hnb5 := NB206_207.out; have hnc5 := NB207_206.out; have hcz6_0 : w4.cell? ⟨gb206, 0, none⟩ = some (.int .i64 a0_0) := (blk_cell BK206.out 0).trans rfl; have hcz6_1 : w4.cell? ⟨gb206, 1, none⟩ = some (.int .i64 a0_1) := (blk_cell BK206.out 1).trans rfl; have hcz6_2 : w4.cell? ⟨gb206, 2, none⟩ = some (.slice A0_2 l0_2.length c0_2) := (blk_cell BK206.out 2).trans rfl; have hfz6_0 := blk_frozen BK206.out 0; have hfz6_1 := blk_frozen BK206.out 1; have hfz6_2 := blk_frozen BK206.out 2; have hcz7_0 : w4.cell? ⟨gb207, 0, none⟩ = some (.int .i64 0) := (blk_cell BK207.out 0).trans rfl; have hcz7_1 : w4.cell? ⟨gb207, 1, none⟩ = some (.int .i64 0) := (blk_cell BK207.out 1).trans rfl; have hcz7_2 : w4.cell? ⟨gb207, 2, none⟩ = some (.slice none 0 0) := (blk_cell BK207.out 2).trans rfl; have hfz7_0 := blk_frozen BK207.out 0; have hfz7_1 := blk_frozen BK207.out 1; have hfz7_2 := blk_frozen BK207.out 2))
    refine bodyPost_ret (results_cell_row rfl _ _ gb207 25 #[.int .i64 a0_0, .int .i64 a0_1, .slice none 0 0] (0, 0) _ rfl (by (with_reducible repeat (first | refine blk_drewN ?_ _ | refine blk_drew ?_ | refine blk_alloc ?_ _)); refine blk_put (cs := #[.int .i64 a0_0, .int .i64 a0_1, .slice none 0 0]) ?_ 2 _ rfl; (with_reducible repeat (first | refine blk_drewN ?_ _ | refine blk_drew ?_ | refine blk_alloc ?_ _)); refine blk_put (cs := #[.int .i64 a0_0, .int .i64 0, .slice none 0 0]) ?_ 1 _ rfl; (with_reducible repeat (first | refine blk_drewN ?_ _ | refine blk_drew ?_ | refine blk_alloc ?_ _)); refine blk_put (cs := #[.int .i64 0, .int .i64 0, .slice none 0 0]) ?_ 0 _ rfl; (with_reducible repeat (first | refine blk_drewN ?_ _ | refine blk_drew ?_ | refine blk_alloc ?_ _)); exact BK207.out) Try.underlying25 rfl (by kernel_rfl)) rfl ?_
    exact ⟨_, ab20_, by first | exact Kd.R_nil _ _ _ _ _ | exact Kd.N_nil _ _ _ _ _ | exact Kd.V_nil _ _ _ _ _ | exact Kd.Q_nil _ _ _ _ _ | exact Kd.S_nil _ _ _ _ _, ab8_⟩
  · rw [if_neg c2] at H
    have c2b0 : ((l0_2.length : Int) == 0) = false := beq_eq_false_iff_ne.mpr c2
    have c2b1 : ((l0_2.length : Int) != 0) = true := bne_iff_ne.mpr c2
    have c2b2 : ¬ (l0_2 = []) := fun h_ => c2 (by rw [h_]; rfl)
    by_cases c8 : 0 < (l0_2.length : Int)
    · rw [if_pos c8] at H
      have c8b0 : decide (0 < (l0_2.length : Int)) = true := decide_eq_true c8
      have c8b1 : decide (0 < l0_2.length) = true := decide_eq_true (by omega)
      clear c8
      replace H := Option.bind_eq_some_iff.mp H
      obtain ⟨⟨t209, t210, t211⟩, A90, H⟩ := H
      replace H : (if 1 < (l0_2.length : Int) then ((impl_exprFold.f k ((rd_T25 l0_2 1).f0) ((rd_T25 l0_2 1).f1) ((rd_T25 l0_2 1).f2)).bind fun bt215 => (if t209 = 0 then (impl_exprFold.j0 k (bt215.1 == 0) a0_0 a0_1 l0_2 t209 t210 t211 bt215.1 bt215.2.1 bt215.2.2) else (impl_exprFold.j0 k false a0_0 a0_1 l0_2 t209 t210 t211 bt215.1 bt215.2.1 bt215.2.2))) else (none)) = some (r1, r2, r3) := H
      have A9 := Aside0.mk A90
      clear A90
      by_cases c10 : 1 < (l0_2.length : Int)
      · rw [if_pos c10] at H
        have c10b0 : decide (1 < (l0_2.length : Int)) = true := decide_eq_true c10
        have c10b1 : decide (1 < l0_2.length) = true := decide_eq_true (by omega)
        clear c10
        replace H := Option.bind_eq_some_iff.mp H
        obtain ⟨⟨t215, t216, t217⟩, A110, H⟩ := H
        replace H : (if t209 = 0 then (impl_exprFold.j0 k (t215 == 0) a0_0 a0_1 l0_2 t209 t210 t211 t215 t216 t217) else (impl_exprFold.j0 k false a0_0 a0_1 l0_2 t209 t210 t211 t215 t216 t217)) = some (r1, r2, r3) := H
        have A11 := Aside0.mk A110
        clear A110
        have HC12 := Aside0.mk H
        clear H
        go_enter Try.func56, Try.ntmps56
        try go_wp2_with (first | ((with_reducible refine gate_dst (N := 1) rfl ?_); refine box_event ?hg (N := 1) ?hd (cs := #[.int .i64 a0_0, .int .i64 a0_1, .slice A0_2 l0_2.length c0_2]) (t := 25) ?hr ?_; (case hd => rfl); (case hg => rfl); (case hr => first | (go_simp; done) | (go_simp; rfl)); intro gb206 hg w13 hbox hb; have n0_ := Aside0.mk (below_step ab2_ hb); have n1_ := Aside0.mk (hbox); have n2_ := Aside0.mk ((by rw [hg]; exact (below_size ab2_) : w.heap.size ≤ gb206)); have n3_ := Aside0.mk ((by rw [hg]; exact (below_size ab2_) : w.heap.size ≤ gb206)); clear HB; have HB := n0_; have BK206 := n1_; have GW206 := n2_; have GE206 := n3_; clear n0_ n1_ n2_ n3_; clear hb hbox hg) | ((with_reducible refine gate_dst (N := 2) rfl ?_); refine box_event ?hg (N := 2) ?hd (cs := #[.int .i64 0, .int .i64 0, .slice none 0 0]) (t := 25) ?hr ?_; (case hd => rfl); (case hg => rfl); (case hr => first | (go_simp; done) | (go_simp; rfl)); intro gb207 hg w14 hbox hb; have n0_ := Aside0.mk (blk_below (g := gb206) (o := .cells #[.int .i64 a0_0, .int .i64 a0_1, .slice A0_2 l0_2.length c0_2] 25 (0, 0)) (aG_ BK206.out) hb); have n1_ := Aside0.mk (below_step ab44_ hb); have n2_ := Aside0.mk (hbox); have n3_ := Aside0.mk ((by rw [hg]; exact (below_size ab44_) : w.heap.size ≤ gb207)); have n4_ := Aside0.mk ((by rw [hg]; exact (below_size ab44_) : w.heap.size ≤ gb207)); have n5_ := Aside0.mk ((by rw [hg]; exact Nat.ne_of_lt (blk_lt (g := gb206) (o := .cells #[.int .i64 a0_0, .int .i64 a0_1, .slice A0_2 l0_2.length c0_2] 25 (0, 0)) (aG_ BK206.out)) : gb206 ≠ gb207)); have n6_ := Aside0.mk ((by rw [hg]; exact Nat.ne_of_gt (blk_lt (g := gb206) (o := .cells #[.int .i64 a0_0, .int .i64 a0_1, .slice A0_2 l0_2.length c0_2] 25 (0, 0)) (aG_ BK206.out)) : gb207 ≠ gb206)); clear BK206; clear HB; have BK206 := n0_; have HB := n1_; have BK207 := n2_; have GW207 := n3_; have GE207 := n4_; have NB206_207 := n5_; have NB207_206 := n6_; clear n0_ n1_ n2_ n3_ n4_ n5_ n6_; clear hb hbox hg; have hnb15 := NB206_207.out; have hnc15 := NB207_206.out; have hcz16_0 : w14.cell? ⟨gb206, 0, none⟩ = some (.int .i64 a0_0) := (blk_cell BK206.out 0).trans rfl; have hcz16_1 : w14.cell? ⟨gb206, 1, none⟩ = some (.int .i64 a0_1) := (blk_cell BK206.out 1).trans rfl; have hcz16_2 : w14.cell? ⟨gb206, 2, none⟩ = some (.slice A0_2 l0_2.length c0_2) := (blk_cell BK206.out 2).trans rfl; have hfz16_0 := blk_frozen BK206.out 0; have hfz16_1 := blk_frozen BK206.out 1; have hfz16_2 := blk_frozen BK206.out 2))
        have n0_ := Aside0.mk (blk_drew BK206.out)
        have n1_ := Aside0.mk (blk_drew BK207.out)
        have n2_ := Aside0.mk (below_drew1 HB.out)
        clear BK206
        clear BK207
        clear HB
        have BK206 := n0_
        have BK207 := n1_
        have HB := n2_
        clear n0_ n1_ n2_
        have p208 : 0 ≤ (0 : Int) := (by omega)
        have q208 : 0 < (l0_2.length : Int) := of_decide_eq_true (by first | (with_reducible assumption) | assumption)
        obtain ⟨ad208, A208_2, c208_2, e208, hx208_0, hx208_1, hx208_2, hl208_2, hi208_2⟩ := at_T25 HR0_2.out 0 p208 q208
        have hw208_2 := hx208_2
        (try rw [show ((0 : Int)).toNat = 0 from rfl] at hw208_2)
        (try rw [show 0 * 3 = 0 from rfl] at hw208_2)
        (try rw [Addr.add_zero'] at hw208_2)
        have hw208_1 := hx208_1
        (try rw [show ((0 : Int)).toNat = 0 from rfl] at hw208_1)
        (try rw [show 0 * 3 = 0 from rfl] at hw208_1)
        (try rw [Addr.add_zero'] at hw208_1)
        have hw208_0 := hx208_0
        (try rw [show ((0 : Int)).toNat = 0 from rfl] at hw208_0)
        (try rw [show 0 * 3 = 0 from rfl] at hw208_0)
        (try rw [Addr.add_zero'] at hw208_0)
        cases e208
        have qi208 : (0 < l0_2.length) = True := eq_true (by omega)
        (try rw [show ((0 : Int)).toNat = 0 from rfl] at hx208_0)
        (try rw [show 0 * 3 = 0 from rfl] at hx208_0)
        (try rw [Addr.add_zero'] at hx208_0)
        (try rw [show ((0 : Int)).toNat = 0 from rfl] at hx208_1)
        (try rw [show 0 * 3 = 0 from rfl] at hx208_1)
        (try rw [Addr.add_zero'] at hx208_1)
        (try rw [show ((0 : Int)).toNat = 0 from rfl] at hx208_2)
        (try rw [show 0 * 3 = 0 from rfl] at hx208_2)
        (try rw [Addr.add_zero'] at hx208_2)
        replace hx208_0 := (HB.out.cell (World.block_lt_of_cell? w _ hx208_0)).trans hx208_0
        replace hx208_1 := (HB.out.cell (World.block_lt_of_cell? w _ hx208_1)).trans hx208_1
        replace hx208_2 := (HB.out.cell (World.block_lt_of_cell? w _ hx208_2)).trans hx208_2
        have HR208_2 := Aside0.mk hi208_2
        have HC208_2 := Aside0.mk hl208_2
        clear hi208_2 hl208_2
        replace p208 := eq_true p208
        replace q208 := eq_true q208
        have p214 : 0 ≤ (1 : Int) := (by omega)
        have q214 : 1 < (l0_2.length : Int) := of_decide_eq_true (by first | (with_reducible assumption) | assumption)
        obtain ⟨ad214, A214_2, c214_2, e214, hx214_0, hx214_1, hx214_2, hl214_2, hi214_2⟩ := at_T25 HR0_2.out 1 p214 q214
        have hw214_2 := hx214_2
        (try rw [show ((1 : Int)).toNat = 1 from rfl] at hw214_2)
        (try rw [show 1 * 3 = 3 from rfl] at hw214_2)
        (try simp only [Nat.reduceMul, Nat.reduceEqDiff, Go.Addr.add, ↓reduceIte] at hw214_2)
        have hw214_1 := hx214_1
        (try rw [show ((1 : Int)).toNat = 1 from rfl] at hw214_1)
        (try rw [show 1 * 3 = 3 from rfl] at hw214_1)
        (try simp only [Nat.reduceMul, Nat.reduceEqDiff, Go.Addr.add, ↓reduceIte] at hw214_1)
        have hw214_0 := hx214_0
        (try rw [show ((1 : Int)).toNat = 1 from rfl] at hw214_0)
        (try rw [show 1 * 3 = 3 from rfl] at hw214_0)
        (try simp only [Nat.reduceMul, Nat.reduceEqDiff, Go.Addr.add, ↓reduceIte] at hw214_0)
        obtain rfl : ad208 = ad214 := (by injection e214)
        (try simp only [show (1 : Int).toNat = 1 from rfl, Nat.reduceMul, Nat.reduceEqDiff, Go.Addr.add, ↓reduceIte] at hx214_0)
        (try simp only [show (1 : Int).toNat = 1 from rfl, Nat.reduceMul, Nat.reduceEqDiff, Go.Addr.add, ↓reduceIte] at hx214_1)
        (try simp only [show (1 : Int).toNat = 1 from rfl, Nat.reduceMul, Nat.reduceEqDiff, Go.Addr.add, ↓reduceIte] at hx214_2)
        have qi214 : (1 < l0_2.length) = True := eq_true (by omega)
        (try rw [show ((1 : Int)).toNat = 1 from rfl] at hx214_0)
        (try rw [show 1 * 3 = 3 from rfl] at hx214_0)
        (try rw [show ((1 : Int)).toNat = 1 from rfl] at hx214_1)
        (try rw [show 1 * 3 = 3 from rfl] at hx214_1)
        (try rw [show ((1 : Int)).toNat = 1 from rfl] at hx214_2)
        (try rw [show 1 * 3 = 3 from rfl] at hx214_2)
        replace hx214_0 := (HB.out.cell (World.block_lt_of_cell? w _ hx214_0)).trans hx214_0
        replace hx214_1 := (HB.out.cell (World.block_lt_of_cell? w _ hx214_1)).trans hx214_1
        replace hx214_2 := (HB.out.cell (World.block_lt_of_cell? w _ hx214_2)).trans hx214_2
        have HR214_2 := Aside0.mk hi214_2
        have HC214_2 := Aside0.mk hl214_2
        clear hi214_2 hl214_2
        replace p214 := eq_true p214
        replace q214 := eq_true q214
        refine start_ (n := 14) (S := fun w' => w'.cell? ⟨gb206, 0, none⟩ = some (.int .i64 a0_0) ∧ w'.cell? ⟨gb206, 1, none⟩ = some (.int .i64 a0_1) ∧ w'.cell? ⟨gb206, 2, none⟩ = some (.slice (some ad208) l0_2.length c0_2) ∧ w'.cell? ad208 = some (.int .i64 ((rd_T25 l0_2 0).f0)) ∧ w'.cell? ⟨ad208.block, ad208.off + 1, none⟩ = some (.int .i64 ((rd_T25 l0_2 0).f1)) ∧ w'.cell? ⟨ad208.block, ad208.off + 2, none⟩ = some (.slice A208_2 ((rd_T25 l0_2 0).f2).length c208_2) ∧ w'.cell? ⟨ad208.block, ad208.off + 3, none⟩ = some (.int .i64 ((rd_T25 l0_2 1).f0)) ∧ w'.cell? ⟨ad208.block, ad208.off + 3 + 1, none⟩ = some (.int .i64 ((rd_T25 l0_2 1).f1)) ∧ w'.cell? ⟨ad208.block, ad208.off + 3 + 2, none⟩ = some (.slice A214_2 ((rd_T25 l0_2 1).f2).length c214_2)) (ds := []) #[false, false, false, false, false, false, false, false, false, false, false, false, false, false] (by kernel_rfl) rfl rfl ⟨(blk_cell BK206.out 0).trans rfl, (blk_cell BK206.out 1).trans rfl, (blk_cell BK206.out 2).trans rfl, ((HB.out.cell (World.block_lt_of_cell? w _ hw208_0)).trans hw208_0), ((HB.out.cell (World.block_lt_of_cell? w _ hw208_1)).trans hw208_1), ((HB.out.cell (World.block_lt_of_cell? w _ hw208_2)).trans hw208_2), ((HB.out.cell (World.block_lt_of_cell? w _ hw214_0)).trans hw214_0), ((HB.out.cell (World.block_lt_of_cell? w _ hw214_1)).trans hw214_1), ((HB.out.cell (World.block_lt_of_cell? w _ hw214_2)).trans hw214_2)⟩ (fun hHeld => ?_); refine with_tabW impl_exprFold.tab3 impl_exprFold.bits3 (fun HT_ HW_ => ?_)
        generalize w14.drew = w17 at BK206 BK207 HB HR208_2 HR214_2 hx208_0 hx208_1 hx208_2 hx214_0 hx214_1 hx214_2 hHeld ⊢
        refine pure_ (i := 0) (N := some 15) (v := ?_) (a' := ?_) #[true, false, false, false, false, false, false, false, false, false, false, false, false, false] rfl rfl (any_of HT_.out (by kernel_rfl)) (fun _ _ _ h => h) (Or.inl ⟨by rfl, ?_⟩) ?_ ?_
        rotate_left
        · intro w'
          go_simp
          with_reducible rfl
        rotate_left
        · simp only [Act.put, List.setIfInBounds_toArray, List.set_cons_zero, List.set_cons_succ, i64_w, i32_w]
          rfl
        refine pure_ (i := 5) (N := some 20) (v := ?_) (a' := ?_) #[true, false, false, false, false, true, false, false, false, false, false, false, false, false] rfl rfl (any_of HT_.out (by kernel_rfl)) (fun _ _ _ h => h) (Or.inl ⟨by rfl, ?_⟩) ?_ ?_
        rotate_left
        · intro w'
          go_simp
          with_reducible rfl
        rotate_left
        · simp only [Act.put, List.setIfInBounds_toArray, List.set_cons_zero, List.set_cons_succ, i64_w, i32_w]
          rfl
        refine take_ (i := 1) (N := some 16) (v := ?_) (a' := ?_) #[true, true, false, false, false, true, false, false, false, false, false, false, false, false] rfl rfl (take_ofW HT_.out HW_.out (by kernel_rfl)) (fun _ _ _ h => h) (Or.inl ⟨by rfl, ?_⟩) hHeld ?_ ?_
        rotate_left
        · rintro w' ⟨s0, s1, s2, s3, s4, s5, s6, s7, s8⟩
          go_simp
          with_reducible rfl
        rotate_left
        · simp only [Act.put, List.setIfInBounds_toArray, List.set_cons_zero, List.set_cons_succ, i64_w, i32_w]
          rfl
        refine pure_ (i := 2) (N := some 17) (v := ?_) (a' := ?_) #[true, true, true, false, false, true, false, false, false, false, false, false, false, false] rfl rfl (any_of HT_.out (by kernel_rfl)) (fun _ _ _ h => h) (Or.inl ⟨by rfl, ?_⟩) ?_ ?_
        rotate_left
        · intro w'
          go_simp
          with_reducible rfl
        rotate_left
        · simp only [Act.put, List.setIfInBounds_toArray, List.set_cons_zero, List.set_cons_succ, i64_w, i32_w]
          rfl
        refine take_ (i := 3) (N := some 18) (v := ?_) (a' := ?_) #[true, true, true, true, false, true, false, false, false, false, false, false, false, false] rfl rfl (take_ofW HT_.out HW_.out (by kernel_rfl)) (fun _ _ _ h => h) (Or.inl ⟨by rfl, ?_⟩) hHeld ?_ ?_
        rotate_left
        · rintro w' ⟨s0, s1, s2, s3, s4, s5, s6, s7, s8⟩
          go_simp
          with_reducible rfl
        rotate_left
        · simp only [Act.put, List.setIfInBounds_toArray, List.set_cons_zero, List.set_cons_succ, i64_w, i32_w]
          rfl
        refine take_ (i := 6) (N := some 21) (v := ?_) (a' := ?_) #[true, true, true, true, false, true, true, false, false, false, false, false, false, false] rfl rfl (take_ofW HT_.out HW_.out (by kernel_rfl)) (fun _ _ _ h => h) (Or.inl ⟨by rfl, ?_⟩) hHeld ?_ ?_
        rotate_left
        · rintro w' ⟨s0, s1, s2, s3, s4, s5, s6, s7, s8⟩
          go_simp
          with_reducible rfl
        rotate_left
        · simp only [Act.put, List.setIfInBounds_toArray, List.set_cons_zero, List.set_cons_succ, i64_w, i32_w]
          rfl
        refine pure_ (i := 7) (N := some 22) (v := ?_) (a' := ?_) #[true, true, true, true, false, true, true, true, false, false, false, false, false, false] rfl rfl (any_of HT_.out (by kernel_rfl)) (fun _ _ _ h => h) (Or.inl ⟨by rfl, ?_⟩) ?_ ?_
        rotate_left
        · intro w'
          go_simp
          with_reducible rfl
        rotate_left
        · simp only [Act.put, List.setIfInBounds_toArray, List.set_cons_zero, List.set_cons_succ, i64_w, i32_w]
          rfl
        refine take_ (i := 8) (N := some 23) (v := ?_) (a' := ?_) #[true, true, true, true, false, true, true, true, true, false, false, false, false, false] rfl rfl (take_ofW HT_.out HW_.out (by kernel_rfl)) (fun _ _ _ h => h) (Or.inl ⟨by rfl, ?_⟩) hHeld ?_ ?_
        rotate_left
        · rintro w' ⟨s0, s1, s2, s3, s4, s5, s6, s7, s8⟩
          go_simp
          with_reducible rfl
        rotate_left
        · simp only [Act.put, List.setIfInBounds_toArray, List.set_cons_zero, List.set_cons_succ, i64_w, i32_w]
          rfl
        refine join_ (σ := Value × Value × Nat × Nat) 2 #[true, true, true, true, true, true, true, true, true, true, true, true, false, false] (fun s_ => [(19, .agg #[.int .i64 t209, .int .i64 t210, s_.1]), (24, .agg #[.int .i64 t215, .int .i64 t216, s_.2.1]), (3, .pointer (some ⟨s_.2.2.1, 0, none⟩)), (4, .pointer (some ⟨s_.2.2.2, 0, none⟩))]) (fun s_ w' => (w'.cell? ⟨gb206, 0, none⟩ = some (.int .i64 a0_0) ∧ w'.cell? ⟨gb206, 1, none⟩ = some (.int .i64 a0_1) ∧ w'.cell? ⟨gb206, 2, none⟩ = some (.slice (some ad208) l0_2.length c0_2) ∧ w'.cell? ad208 = some (.int .i64 ((rd_T25 l0_2 0).f0)) ∧ w'.cell? ⟨ad208.block, ad208.off + 1, none⟩ = some (.int .i64 ((rd_T25 l0_2 0).f1)) ∧ w'.cell? ⟨ad208.block, ad208.off + 2, none⟩ = some (.slice A208_2 ((rd_T25 l0_2 0).f2).length c208_2) ∧ w'.cell? ⟨ad208.block, ad208.off + 3, none⟩ = some (.int .i64 ((rd_T25 l0_2 1).f0)) ∧ w'.cell? ⟨ad208.block, ad208.off + 3 + 1, none⟩ = some (.int .i64 ((rd_T25 l0_2 1).f1)) ∧ w'.cell? ⟨ad208.block, ad208.off + 3 + 2, none⟩ = some (.slice A214_2 ((rd_T25 l0_2 1).f2).length c214_2)) ∧ (Kd.N k25 25 w' w.heap.size (fun k_ => (w.heap.size ≤ k_) ∧ some k_ ≠ (s_.2.1 : Value).ownBlock ∧ k_ ≠ gb206 ∧ k_ ≠ gb207 ∧ k_ ≠ s_.2.2.1 ∧ k_ ≠ s_.2.2.2) s_.1 t211) ∧ (Kd.N k25 25 w' w.heap.size (fun k_ => (w.heap.size ≤ k_) ∧ some k_ ≠ (s_.1 : Value).ownBlock ∧ k_ ≠ gb206 ∧ k_ ≠ gb207 ∧ k_ ≠ s_.2.2.1 ∧ k_ ≠ s_.2.2.2) s_.2.1 t217) ∧ (w'.heap[gb206]? = some (.cells #[.int .i64 a0_0, .int .i64 a0_1, .slice (some ad208) l0_2.length c0_2] 25 (0, 0))) ∧ (w'.heap[gb207]? = some (.cells #[.int .i64 0, .int .i64 0, .slice none 0 0] 25 (0, 0))) ∧ (w'.heap[s_.2.2.1]? = some (.cells #[.int .i64 0, .int .i64 0, .slice none 0 0] 25 (0, 0))) ∧ (w'.heap[s_.2.2.2]? = some (.cells #[.int .i64 0, .int .i64 0, .slice none 0 0] 25 (0, 0))) ∧ (w.heap.size ≤ s_.2.2.1) ∧ (w.heap.size ≤ s_.2.2.1) ∧ (gb206 ≠ s_.2.2.1) ∧ (s_.2.2.1 ≠ gb206) ∧ (gb207 ≠ s_.2.2.1) ∧ (s_.2.2.1 ≠ gb207) ∧ (s_.2.2.2 ≠ s_.2.2.1) ∧ (s_.2.2.1 ≠ s_.2.2.2) ∧ (w.heap.size ≤ s_.2.2.2) ∧ (w.heap.size ≤ s_.2.2.2) ∧ (gb206 ≠ s_.2.2.2) ∧ (s_.2.2.2 ≠ gb206) ∧ (gb207 ≠ s_.2.2.2) ∧ (s_.2.2.2 ≠ gb207) ∧ (Below w.heap.size w w')) ?_ ?_
        rotate_left
        · intro hJ4_9_10_11
          refine join_ (σ := Value × Value × Nat) 3 #[true, true, true, true, true, true, true, true, true, true, true, false, false, false] (fun s_ => [(19, .agg #[.int .i64 t209, .int .i64 t210, s_.1]), (24, .agg #[.int .i64 t215, .int .i64 t216, s_.2.1]), (3, .pointer (some ⟨s_.2.2, 0, none⟩))]) (fun s_ w' => (w'.cell? ⟨gb206, 0, none⟩ = some (.int .i64 a0_0) ∧ w'.cell? ⟨gb206, 1, none⟩ = some (.int .i64 a0_1) ∧ w'.cell? ⟨gb206, 2, none⟩ = some (.slice (some ad208) l0_2.length c0_2) ∧ w'.cell? ad208 = some (.int .i64 ((rd_T25 l0_2 0).f0)) ∧ w'.cell? ⟨ad208.block, ad208.off + 1, none⟩ = some (.int .i64 ((rd_T25 l0_2 0).f1)) ∧ w'.cell? ⟨ad208.block, ad208.off + 2, none⟩ = some (.slice A208_2 ((rd_T25 l0_2 0).f2).length c208_2) ∧ w'.cell? ⟨ad208.block, ad208.off + 3, none⟩ = some (.int .i64 ((rd_T25 l0_2 1).f0)) ∧ w'.cell? ⟨ad208.block, ad208.off + 3 + 1, none⟩ = some (.int .i64 ((rd_T25 l0_2 1).f1)) ∧ w'.cell? ⟨ad208.block, ad208.off + 3 + 2, none⟩ = some (.slice A214_2 ((rd_T25 l0_2 1).f2).length c214_2)) ∧ (Kd.N k25 25 w' w.heap.size (fun k_ => (w.heap.size ≤ k_) ∧ some k_ ≠ (s_.2.1 : Value).ownBlock ∧ k_ ≠ gb206 ∧ k_ ≠ gb207 ∧ k_ ≠ s_.2.2) s_.1 t211) ∧ (Kd.N k25 25 w' w.heap.size (fun k_ => (w.heap.size ≤ k_) ∧ some k_ ≠ (s_.1 : Value).ownBlock ∧ k_ ≠ gb206 ∧ k_ ≠ gb207 ∧ k_ ≠ s_.2.2) s_.2.1 t217) ∧ (w'.heap[gb206]? = some (.cells #[.int .i64 a0_0, .int .i64 a0_1, .slice (some ad208) l0_2.length c0_2] 25 (0, 0))) ∧ (w'.heap[gb207]? = some (.cells #[.int .i64 0, .int .i64 0, .slice none 0 0] 25 (0, 0))) ∧ (w'.heap[s_.2.2]? = some (.cells #[.int .i64 0, .int .i64 0, .slice none 0 0] 25 (0, 0))) ∧ (w.heap.size ≤ s_.2.2) ∧ (w.heap.size ≤ s_.2.2) ∧ (gb206 ≠ s_.2.2) ∧ (s_.2.2 ≠ gb206) ∧ (gb207 ≠ s_.2.2) ∧ (s_.2.2 ≠ gb207) ∧ (Below w.heap.size w w')) ?_ ?_
          rotate_left
          · intro hJ4_9_10
            refine join_ (σ := Value × Value × Nat) 3 #[true, true, true, true, true, true, true, true, true, true, false, true, false, false] (fun s_ => [(19, .agg #[.int .i64 t209, .int .i64 t210, s_.1]), (24, .agg #[.int .i64 t215, .int .i64 t216, s_.2.1]), (4, .pointer (some ⟨s_.2.2, 0, none⟩))]) (fun s_ w' => (w'.cell? ⟨gb206, 0, none⟩ = some (.int .i64 a0_0) ∧ w'.cell? ⟨gb206, 1, none⟩ = some (.int .i64 a0_1) ∧ w'.cell? ⟨gb206, 2, none⟩ = some (.slice (some ad208) l0_2.length c0_2) ∧ w'.cell? ad208 = some (.int .i64 ((rd_T25 l0_2 0).f0)) ∧ w'.cell? ⟨ad208.block, ad208.off + 1, none⟩ = some (.int .i64 ((rd_T25 l0_2 0).f1)) ∧ w'.cell? ⟨ad208.block, ad208.off + 2, none⟩ = some (.slice A208_2 ((rd_T25 l0_2 0).f2).length c208_2) ∧ w'.cell? ⟨ad208.block, ad208.off + 3, none⟩ = some (.int .i64 ((rd_T25 l0_2 1).f0)) ∧ w'.cell? ⟨ad208.block, ad208.off + 3 + 1, none⟩ = some (.int .i64 ((rd_T25 l0_2 1).f1)) ∧ w'.cell? ⟨ad208.block, ad208.off + 3 + 2, none⟩ = some (.slice A214_2 ((rd_T25 l0_2 1).f2).length c214_2)) ∧ (Kd.N k25 25 w' w.heap.size (fun k_ => (w.heap.size ≤ k_) ∧ some k_ ≠ (s_.2.1 : Value).ownBlock ∧ k_ ≠ gb206 ∧ k_ ≠ gb207 ∧ k_ ≠ s_.2.2) s_.1 t211) ∧ (Kd.N k25 25 w' w.heap.size (fun k_ => (w.heap.size ≤ k_) ∧ some k_ ≠ (s_.1 : Value).ownBlock ∧ k_ ≠ gb206 ∧ k_ ≠ gb207 ∧ k_ ≠ s_.2.2) s_.2.1 t217) ∧ (w'.heap[gb206]? = some (.cells #[.int .i64 a0_0, .int .i64 a0_1, .slice (some ad208) l0_2.length c0_2] 25 (0, 0))) ∧ (w'.heap[gb207]? = some (.cells #[.int .i64 0, .int .i64 0, .slice none 0 0] 25 (0, 0))) ∧ (w'.heap[s_.2.2]? = some (.cells #[.int .i64 0, .int .i64 0, .slice none 0 0] 25 (0, 0))) ∧ (w.heap.size ≤ s_.2.2) ∧ (w.heap.size ≤ s_.2.2) ∧ (gb206 ≠ s_.2.2) ∧ (s_.2.2 ≠ gb206) ∧ (gb207 ≠ s_.2.2) ∧ (s_.2.2 ≠ gb207) ∧ (Below w.heap.size w w')) ?_ ?_
            rotate_left
            · intro hJ4_9_11
              refine join_ (σ := Value × Nat × Nat) 3 #[true, true, true, true, true, true, true, true, true, false, true, true, false, false] (fun s_ => [(19, .agg #[.int .i64 t209, .int .i64 t210, s_.1]), (3, .pointer (some ⟨s_.2.1, 0, none⟩)), (4, .pointer (some ⟨s_.2.2, 0, none⟩))]) (fun s_ w' => (w'.cell? ⟨gb206, 0, none⟩ = some (.int .i64 a0_0) ∧ w'.cell? ⟨gb206, 1, none⟩ = some (.int .i64 a0_1) ∧ w'.cell? ⟨gb206, 2, none⟩ = some (.slice (some ad208) l0_2.length c0_2) ∧ w'.cell? ad208 = some (.int .i64 ((rd_T25 l0_2 0).f0)) ∧ w'.cell? ⟨ad208.block, ad208.off + 1, none⟩ = some (.int .i64 ((rd_T25 l0_2 0).f1)) ∧ w'.cell? ⟨ad208.block, ad208.off + 2, none⟩ = some (.slice A208_2 ((rd_T25 l0_2 0).f2).length c208_2) ∧ w'.cell? ⟨ad208.block, ad208.off + 3, none⟩ = some (.int .i64 ((rd_T25 l0_2 1).f0)) ∧ w'.cell? ⟨ad208.block, ad208.off + 3 + 1, none⟩ = some (.int .i64 ((rd_T25 l0_2 1).f1)) ∧ w'.cell? ⟨ad208.block, ad208.off + 3 + 2, none⟩ = some (.slice A214_2 ((rd_T25 l0_2 1).f2).length c214_2)) ∧ (Kd.N k25 25 w' w.heap.size (fun k_ => (w.heap.size ≤ k_) ∧ k_ ≠ gb206 ∧ k_ ≠ gb207 ∧ k_ ≠ s_.2.1 ∧ k_ ≠ s_.2.2) s_.1 t211) ∧ (w'.heap[gb206]? = some (.cells #[.int .i64 a0_0, .int .i64 a0_1, .slice (some ad208) l0_2.length c0_2] 25 (0, 0))) ∧ (w'.heap[gb207]? = some (.cells #[.int .i64 0, .int .i64 0, .slice none 0 0] 25 (0, 0))) ∧ (w'.heap[s_.2.1]? = some (.cells #[.int .i64 0, .int .i64 0, .slice none 0 0] 25 (0, 0))) ∧ (w'.heap[s_.2.2]? = some (.cells #[.int .i64 0, .int .i64 0, .slice none 0 0] 25 (0, 0))) ∧ (w.heap.size ≤ s_.2.1) ∧ (w.heap.size ≤ s_.2.1) ∧ (gb206 ≠ s_.2.1) ∧ (s_.2.1 ≠ gb206) ∧ (gb207 ≠ s_.2.1) ∧ (s_.2.1 ≠ gb207) ∧ (s_.2.2 ≠ s_.2.1) ∧ (s_.2.1 ≠ s_.2.2) ∧ (w.heap.size ≤ s_.2.2) ∧ (w.heap.size ≤ s_.2.2) ∧ (gb206 ≠ s_.2.2) ∧ (s_.2.2 ≠ gb206) ∧ (gb207 ≠ s_.2.2) ∧ (s_.2.2 ≠ gb207) ∧ (Below w.heap.size w w')) ?_ ?_
              rotate_left
              · intro hJ4_10_11
                refine join_ (σ := Value × Value) 4 #[true, true, true, true, true, true, true, true, true, true, false, false, false, false] (fun s_ => [(19, .agg #[.int .i64 t209, .int .i64 t210, s_.1]), (24, .agg #[.int .i64 t215, .int .i64 t216, s_.2])]) (fun s_ w' => (w'.cell? ⟨gb206, 0, none⟩ = some (.int .i64 a0_0) ∧ w'.cell? ⟨gb206, 1, none⟩ = some (.int .i64 a0_1) ∧ w'.cell? ⟨gb206, 2, none⟩ = some (.slice (some ad208) l0_2.length c0_2) ∧ w'.cell? ad208 = some (.int .i64 ((rd_T25 l0_2 0).f0)) ∧ w'.cell? ⟨ad208.block, ad208.off + 1, none⟩ = some (.int .i64 ((rd_T25 l0_2 0).f1)) ∧ w'.cell? ⟨ad208.block, ad208.off + 2, none⟩ = some (.slice A208_2 ((rd_T25 l0_2 0).f2).length c208_2) ∧ w'.cell? ⟨ad208.block, ad208.off + 3, none⟩ = some (.int .i64 ((rd_T25 l0_2 1).f0)) ∧ w'.cell? ⟨ad208.block, ad208.off + 3 + 1, none⟩ = some (.int .i64 ((rd_T25 l0_2 1).f1)) ∧ w'.cell? ⟨ad208.block, ad208.off + 3 + 2, none⟩ = some (.slice A214_2 ((rd_T25 l0_2 1).f2).length c214_2)) ∧ (Kd.N k25 25 w' w.heap.size (fun k_ => (w.heap.size ≤ k_) ∧ some k_ ≠ (s_.2 : Value).ownBlock ∧ k_ ≠ gb206 ∧ k_ ≠ gb207) s_.1 t211) ∧ (Kd.N k25 25 w' w.heap.size (fun k_ => (w.heap.size ≤ k_) ∧ some k_ ≠ (s_.1 : Value).ownBlock ∧ k_ ≠ gb206 ∧ k_ ≠ gb207) s_.2 t217) ∧ (w'.heap[gb206]? = some (.cells #[.int .i64 a0_0, .int .i64 a0_1, .slice (some ad208) l0_2.length c0_2] 25 (0, 0))) ∧ (w'.heap[gb207]? = some (.cells #[.int .i64 0, .int .i64 0, .slice none 0 0] 25 (0, 0))) ∧ (Below w.heap.size w w')) ?_ ?_
                rotate_left
                · intro hJ4_9
                  refine join_ (σ := Value × Nat) 4 #[true, true, true, true, true, true, true, true, true, false, true, false, false, false] (fun s_ => [(19, .agg #[.int .i64 t209, .int .i64 t210, s_.1]), (3, .pointer (some ⟨s_.2, 0, none⟩))]) (fun s_ w' => (w'.cell? ⟨gb206, 0, none⟩ = some (.int .i64 a0_0) ∧ w'.cell? ⟨gb206, 1, none⟩ = some (.int .i64 a0_1) ∧ w'.cell? ⟨gb206, 2, none⟩ = some (.slice (some ad208) l0_2.length c0_2) ∧ w'.cell? ad208 = some (.int .i64 ((rd_T25 l0_2 0).f0)) ∧ w'.cell? ⟨ad208.block, ad208.off + 1, none⟩ = some (.int .i64 ((rd_T25 l0_2 0).f1)) ∧ w'.cell? ⟨ad208.block, ad208.off + 2, none⟩ = some (.slice A208_2 ((rd_T25 l0_2 0).f2).length c208_2) ∧ w'.cell? ⟨ad208.block, ad208.off + 3, none⟩ = some (.int .i64 ((rd_T25 l0_2 1).f0)) ∧ w'.cell? ⟨ad208.block, ad208.off + 3 + 1, none⟩ = some (.int .i64 ((rd_T25 l0_2 1).f1)) ∧ w'.cell? ⟨ad208.block, ad208.off + 3 + 2, none⟩ = some (.slice A214_2 ((rd_T25 l0_2 1).f2).length c214_2)) ∧ (Kd.N k25 25 w' w.heap.size (fun k_ => (w.heap.size ≤ k_) ∧ k_ ≠ gb206 ∧ k_ ≠ gb207 ∧ k_ ≠ s_.2) s_.1 t211) ∧ (w'.heap[gb206]? = some (.cells #[.int .i64 a0_0, .int .i64 a0_1, .slice (some ad208) l0_2.length c0_2] 25 (0, 0))) ∧ (w'.heap[gb207]? = some (.cells #[.int .i64 0, .int .i64 0, .slice none 0 0] 25 (0, 0))) ∧ (w'.heap[s_.2]? = some (.cells #[.int .i64 0, .int .i64 0, .slice none 0 0] 25 (0, 0))) ∧ (w.heap.size ≤ s_.2) ∧ (w.heap.size ≤ s_.2) ∧ (gb206 ≠ s_.2) ∧ (s_.2 ≠ gb206) ∧ (gb207 ≠ s_.2) ∧ (s_.2 ≠ gb207) ∧ (Below w.heap.size w w')) ?_ ?_
                  rotate_left
                  · intro hJ4_10
                    refine join_ (σ := Value × Nat) 4 #[true, true, true, true, true, true, true, true, true, false, false, true, false, false] (fun s_ => [(19, .agg #[.int .i64 t209, .int .i64 t210, s_.1]), (4, .pointer (some ⟨s_.2, 0, none⟩))]) (fun s_ w' => (w'.cell? ⟨gb206, 0, none⟩ = some (.int .i64 a0_0) ∧ w'.cell? ⟨gb206, 1, none⟩ = some (.int .i64 a0_1) ∧ w'.cell? ⟨gb206, 2, none⟩ = some (.slice (some ad208) l0_2.length c0_2) ∧ w'.cell? ad208 = some (.int .i64 ((rd_T25 l0_2 0).f0)) ∧ w'.cell? ⟨ad208.block, ad208.off + 1, none⟩ = some (.int .i64 ((rd_T25 l0_2 0).f1)) ∧ w'.cell? ⟨ad208.block, ad208.off + 2, none⟩ = some (.slice A208_2 ((rd_T25 l0_2 0).f2).length c208_2) ∧ w'.cell? ⟨ad208.block, ad208.off + 3, none⟩ = some (.int .i64 ((rd_T25 l0_2 1).f0)) ∧ w'.cell? ⟨ad208.block, ad208.off + 3 + 1, none⟩ = some (.int .i64 ((rd_T25 l0_2 1).f1)) ∧ w'.cell? ⟨ad208.block, ad208.off + 3 + 2, none⟩ = some (.slice A214_2 ((rd_T25 l0_2 1).f2).length c214_2)) ∧ (Kd.N k25 25 w' w.heap.size (fun k_ => (w.heap.size ≤ k_) ∧ k_ ≠ gb206 ∧ k_ ≠ gb207 ∧ k_ ≠ s_.2) s_.1 t211) ∧ (w'.heap[gb206]? = some (.cells #[.int .i64 a0_0, .int .i64 a0_1, .slice (some ad208) l0_2.length c0_2] 25 (0, 0))) ∧ (w'.heap[gb207]? = some (.cells #[.int .i64 0, .int .i64 0, .slice none 0 0] 25 (0, 0))) ∧ (w'.heap[s_.2]? = some (.cells #[.int .i64 0, .int .i64 0, .slice none 0 0] 25 (0, 0))) ∧ (w.heap.size ≤ s_.2) ∧ (w.heap.size ≤ s_.2) ∧ (gb206 ≠ s_.2) ∧ (s_.2 ≠ gb206) ∧ (gb207 ≠ s_.2) ∧ (s_.2 ≠ gb207) ∧ (Below w.heap.size w w')) ?_ ?_
                    rotate_left
                    · intro hJ4_11
                      refine join_ (σ := Nat × Nat) 4 #[true, true, true, true, false, true, true, true, true, false, true, true, false, false] (fun s_ => [(3, .pointer (some ⟨s_.1, 0, none⟩)), (4, .pointer (some ⟨s_.2, 0, none⟩))]) (fun s_ w' => (w'.cell? ⟨gb206, 0, none⟩ = some (.int .i64 a0_0) ∧ w'.cell? ⟨gb206, 1, none⟩ = some (.int .i64 a0_1) ∧ w'.cell? ⟨gb206, 2, none⟩ = some (.slice (some ad208) l0_2.length c0_2) ∧ w'.cell? ad208 = some (.int .i64 ((rd_T25 l0_2 0).f0)) ∧ w'.cell? ⟨ad208.block, ad208.off + 1, none⟩ = some (.int .i64 ((rd_T25 l0_2 0).f1)) ∧ w'.cell? ⟨ad208.block, ad208.off + 2, none⟩ = some (.slice A208_2 ((rd_T25 l0_2 0).f2).length c208_2) ∧ w'.cell? ⟨ad208.block, ad208.off + 3, none⟩ = some (.int .i64 ((rd_T25 l0_2 1).f0)) ∧ w'.cell? ⟨ad208.block, ad208.off + 3 + 1, none⟩ = some (.int .i64 ((rd_T25 l0_2 1).f1)) ∧ w'.cell? ⟨ad208.block, ad208.off + 3 + 2, none⟩ = some (.slice A214_2 ((rd_T25 l0_2 1).f2).length c214_2)) ∧ (w'.heap[gb206]? = some (.cells #[.int .i64 a0_0, .int .i64 a0_1, .slice (some ad208) l0_2.length c0_2] 25 (0, 0))) ∧ (w'.heap[gb207]? = some (.cells #[.int .i64 0, .int .i64 0, .slice none 0 0] 25 (0, 0))) ∧ (w'.heap[s_.1]? = some (.cells #[.int .i64 0, .int .i64 0, .slice none 0 0] 25 (0, 0))) ∧ (w'.heap[s_.2]? = some (.cells #[.int .i64 0, .int .i64 0, .slice none 0 0] 25 (0, 0))) ∧ (w.heap.size ≤ s_.1) ∧ (w.heap.size ≤ s_.1) ∧ (gb206 ≠ s_.1) ∧ (s_.1 ≠ gb206) ∧ (gb207 ≠ s_.1) ∧ (s_.1 ≠ gb207) ∧ (s_.2 ≠ s_.1) ∧ (s_.1 ≠ s_.2) ∧ (w.heap.size ≤ s_.2) ∧ (w.heap.size ≤ s_.2) ∧ (gb206 ≠ s_.2) ∧ (s_.2 ≠ gb206) ∧ (gb207 ≠ s_.2) ∧ (s_.2 ≠ gb207) ∧ (Below w.heap.size w w')) ?_ ?_
                      rotate_left
                      · intro hJ10_11
                        refine join_ (σ := Value) 5 #[true, true, true, true, true, true, true, true, true, false, false, false, false, false] (fun s_ => [(19, .agg #[.int .i64 t209, .int .i64 t210, s_])]) (fun s_ w' => (w'.cell? ⟨gb206, 0, none⟩ = some (.int .i64 a0_0) ∧ w'.cell? ⟨gb206, 1, none⟩ = some (.int .i64 a0_1) ∧ w'.cell? ⟨gb206, 2, none⟩ = some (.slice (some ad208) l0_2.length c0_2) ∧ w'.cell? ad208 = some (.int .i64 ((rd_T25 l0_2 0).f0)) ∧ w'.cell? ⟨ad208.block, ad208.off + 1, none⟩ = some (.int .i64 ((rd_T25 l0_2 0).f1)) ∧ w'.cell? ⟨ad208.block, ad208.off + 2, none⟩ = some (.slice A208_2 ((rd_T25 l0_2 0).f2).length c208_2) ∧ w'.cell? ⟨ad208.block, ad208.off + 3, none⟩ = some (.int .i64 ((rd_T25 l0_2 1).f0)) ∧ w'.cell? ⟨ad208.block, ad208.off + 3 + 1, none⟩ = some (.int .i64 ((rd_T25 l0_2 1).f1)) ∧ w'.cell? ⟨ad208.block, ad208.off + 3 + 2, none⟩ = some (.slice A214_2 ((rd_T25 l0_2 1).f2).length c214_2)) ∧ (Kd.N k25 25 w' w.heap.size (fun k_ => (w.heap.size ≤ k_) ∧ k_ ≠ gb206 ∧ k_ ≠ gb207) s_ t211) ∧ (w'.heap[gb206]? = some (.cells #[.int .i64 a0_0, .int .i64 a0_1, .slice (some ad208) l0_2.length c0_2] 25 (0, 0))) ∧ (w'.heap[gb207]? = some (.cells #[.int .i64 0, .int .i64 0, .slice none 0 0] 25 (0, 0))) ∧ (Below w.heap.size w w')) ?_ ?_
                        rotate_left
                        · intro hJ4
                          refine join_ (σ := Nat) 5 #[true, true, true, true, false, true, true, true, true, false, true, false, false, false] (fun s_ => [(3, .pointer (some ⟨s_, 0, none⟩))]) (fun s_ w' => (w'.cell? ⟨gb206, 0, none⟩ = some (.int .i64 a0_0) ∧ w'.cell? ⟨gb206, 1, none⟩ = some (.int .i64 a0_1) ∧ w'.cell? ⟨gb206, 2, none⟩ = some (.slice (some ad208) l0_2.length c0_2) ∧ w'.cell? ad208 = some (.int .i64 ((rd_T25 l0_2 0).f0)) ∧ w'.cell? ⟨ad208.block, ad208.off + 1, none⟩ = some (.int .i64 ((rd_T25 l0_2 0).f1)) ∧ w'.cell? ⟨ad208.block, ad208.off + 2, none⟩ = some (.slice A208_2 ((rd_T25 l0_2 0).f2).length c208_2) ∧ w'.cell? ⟨ad208.block, ad208.off + 3, none⟩ = some (.int .i64 ((rd_T25 l0_2 1).f0)) ∧ w'.cell? ⟨ad208.block, ad208.off + 3 + 1, none⟩ = some (.int .i64 ((rd_T25 l0_2 1).f1)) ∧ w'.cell? ⟨ad208.block, ad208.off + 3 + 2, none⟩ = some (.slice A214_2 ((rd_T25 l0_2 1).f2).length c214_2)) ∧ (w'.heap[gb206]? = some (.cells #[.int .i64 a0_0, .int .i64 a0_1, .slice (some ad208) l0_2.length c0_2] 25 (0, 0))) ∧ (w'.heap[gb207]? = some (.cells #[.int .i64 0, .int .i64 0, .slice none 0 0] 25 (0, 0))) ∧ (w'.heap[s_]? = some (.cells #[.int .i64 0, .int .i64 0, .slice none 0 0] 25 (0, 0))) ∧ (w.heap.size ≤ s_) ∧ (w.heap.size ≤ s_) ∧ (gb206 ≠ s_) ∧ (s_ ≠ gb206) ∧ (gb207 ≠ s_) ∧ (s_ ≠ gb207) ∧ (Below w.heap.size w w')) ?_ ?_
                          rotate_left
                          · intro hJ10
                            refine join_ (σ := Nat) 5 #[true, true, true, true, false, true, true, true, true, false, false, true, false, false] (fun s_ => [(4, .pointer (some ⟨s_, 0, none⟩))]) (fun s_ w' => (w'.cell? ⟨gb206, 0, none⟩ = some (.int .i64 a0_0) ∧ w'.cell? ⟨gb206, 1, none⟩ = some (.int .i64 a0_1) ∧ w'.cell? ⟨gb206, 2, none⟩ = some (.slice (some ad208) l0_2.length c0_2) ∧ w'.cell? ad208 = some (.int .i64 ((rd_T25 l0_2 0).f0)) ∧ w'.cell? ⟨ad208.block, ad208.off + 1, none⟩ = some (.int .i64 ((rd_T25 l0_2 0).f1)) ∧ w'.cell? ⟨ad208.block, ad208.off + 2, none⟩ = some (.slice A208_2 ((rd_T25 l0_2 0).f2).length c208_2) ∧ w'.cell? ⟨ad208.block, ad208.off + 3, none⟩ = some (.int .i64 ((rd_T25 l0_2 1).f0)) ∧ w'.cell? ⟨ad208.block, ad208.off + 3 + 1, none⟩ = some (.int .i64 ((rd_T25 l0_2 1).f1)) ∧ w'.cell? ⟨ad208.block, ad208.off + 3 + 2, none⟩ = some (.slice A214_2 ((rd_T25 l0_2 1).f2).length c214_2)) ∧ (w'.heap[gb206]? = some (.cells #[.int .i64 a0_0, .int .i64 a0_1, .slice (some ad208) l0_2.length c0_2] 25 (0, 0))) ∧ (w'.heap[gb207]? = some (.cells #[.int .i64 0, .int .i64 0, .slice none 0 0] 25 (0, 0))) ∧ (w'.heap[s_]? = some (.cells #[.int .i64 0, .int .i64 0, .slice none 0 0] 25 (0, 0))) ∧ (w.heap.size ≤ s_) ∧ (w.heap.size ≤ s_) ∧ (gb206 ≠ s_) ∧ (s_ ≠ gb206) ∧ (gb207 ≠ s_) ∧ (s_ ≠ gb207) ∧ (Below w.heap.size w w')) ?_ ?_
                            rotate_left
                            · intro hJ11
                              refine three_ (i := 4) (j := 10) (k := 11) (Ni := some 19) (Nj := some 3) (Nk := some 4) #[true, true, true, true, true, true, true, true, true, false, false, false, false, false] #[true, true, true, true, false, true, true, true, true, false, true, false, false, false] #[true, true, true, true, false, true, true, true, true, false, false, true, false, false] rfl rfl rfl rfl rfl rfl (three_of HT_.out (by kernel_rfl)) (by decide) (by decide) (by decide) (fun K hK => ?_) (fun K hK => ?_) (fun K hK => ?_)
                              · skip
                                refine goes_ Try.func56 (by kernel_rfl) rfl #[.agg #[.int .i64 ((rd_T25 l0_2 0).f0), .int .i64 ((rd_T25 l0_2 0).f1), .slice A208_2 ((rd_T25 l0_2 0).f2).length c208_2]] (by rfl) rfl rfl ab1_ ?_
                                with_reducible refine (ih k (by omega) ((rd_T25 l0_2 0).f0) ((rd_T25 l0_2 0).f1) _ _ ((rd_T25 l0_2 0).f2) t209 t210 t211 _ ?side1 ?side2 A9.out).mono ?_
                                (case side1 => repeat (first | exact (Kd.C_below HR208_2.out HB.out) | (with_reducible refine Kd.C_alloc ?_ _) | (with_reducible refine Kd.C_drewN ?_ _) | (with_reducible refine Kd.C_drew ?_)))
                                (case side2 => exact HC208_2.out)
                                rintro e w18 ⟨v212, rfl, ho0, hb⟩
                                refine ⟨_, rfl, ?_⟩
                                have n0_ := Aside0.mk (Kd.N_lower (Kd.N_mono (ok' := fun k_ => (w.heap.size ≤ k_) ∧ k_ ≠ gb206 ∧ k_ ≠ gb207) ho0 (fun k_ hk_ => ⟨(Nat.le_trans (below_size ab8_) hk_), (Kd.freshB (g := gb206) (o := .cells #[.int .i64 a0_0, .int .i64 a0_1, .slice (some ad208) l0_2.length c0_2] 25 (0, 0)) (aG_ BK206.out) k_ hk_), (Kd.freshB (g := gb207) (o := .cells #[.int .i64 0, .int .i64 0, .slice none 0 0] 25 (0, 0)) (aG_ BK207.out) k_ hk_)⟩)) (below_size ab8_))
                                have n1_ := Aside0.mk (blk_below (g := gb206) (o := .cells #[.int .i64 a0_0, .int .i64 a0_1, .slice (some ad208) l0_2.length c0_2] 25 (0, 0)) (aG_ BK206.out) hb)
                                have n2_ := Aside0.mk (blk_below (g := gb207) (o := .cells #[.int .i64 0, .int .i64 0, .slice none 0 0] 25 (0, 0)) (aG_ BK207.out) hb)
                                have n3_ := Aside0.mk (below_step ab8_ hb)
                                clear BK206
                                clear BK207
                                clear HB
                                have HO213 := n0_
                                have BK206 := n1_
                                have BK207 := n2_
                                have HB := n3_
                                clear n0_ n1_ n2_ n3_
                                (try clear hb)
                                (try clear hb2)
                                (try clear hk)
                                (try clear hi)
                                (try clear ho0)
                                refine hK.out _ _ ⟨(blk_cell BK206.out 0).trans rfl, (blk_cell BK206.out 1).trans rfl, (blk_cell BK206.out 2).trans rfl, ((HB.out.cell (World.block_lt_of_cell? w _ hw208_0)).trans hw208_0), ((HB.out.cell (World.block_lt_of_cell? w _ hw208_1)).trans hw208_1), ((HB.out.cell (World.block_lt_of_cell? w _ hw208_2)).trans hw208_2), ((HB.out.cell (World.block_lt_of_cell? w _ hw214_0)).trans hw214_0), ((HB.out.cell (World.block_lt_of_cell? w _ hw214_1)).trans hw214_1), ((HB.out.cell (World.block_lt_of_cell? w _ hw214_2)).trans hw214_2)⟩ (fun hHeld => ?_)
                                clear hK K
                                refine norm_ (a' := ?_) ?_ ?_
                                rotate_left
                                · show Act.put _ (some 19) _ = _
                                  simp only [Act.put, List.setIfInBounds_toArray, List.set_cons_zero, List.set_cons_succ, i64_w, i32_w]
                                  rfl
                                exact norm_ (by first | (simp only [putAll, Act.put, List.setIfInBounds_toArray, List.set_cons_zero, List.set_cons_succ]; done) | (simp only [putAll, Act.put, List.setIfInBounds_toArray, List.set_cons_zero, List.set_cons_succ]; rfl)) (hJ4 (v212) _ ⟨hHeld, (aN_ HO213.out), (aG_ BK206.out), (aG_ BK207.out), ab8_⟩)
                              · skip
                                refine box_step ?hg (N := 3) ?hd (cs := #[.int .i64 0, .int .i64 0, .slice none 0 0]) (t := 25) ?hr ?_; (case hd => rfl); (case hg => rfl); (case hr => first | (go_simp; done) | (go_simp; rfl))
                                intro gb220 hg w18 hbox hb
                                have n0_ := Aside0.mk (blk_below (g := gb206) (o := .cells #[.int .i64 a0_0, .int .i64 a0_1, .slice (some ad208) l0_2.length c0_2] 25 (0, 0)) (aG_ BK206.out) hb)
                                have n1_ := Aside0.mk (blk_below (g := gb207) (o := .cells #[.int .i64 0, .int .i64 0, .slice none 0 0] 25 (0, 0)) (aG_ BK207.out) hb)
                                have n2_ := Aside0.mk (below_step ab8_ hb)
                                have n3_ := Aside0.mk (hbox)
                                have n4_ := Aside0.mk ((by rw [hg]; exact (below_size ab8_) : w.heap.size ≤ gb220))
                                have n5_ := Aside0.mk ((by rw [hg]; exact (below_size ab8_) : w.heap.size ≤ gb220))
                                have n6_ := Aside0.mk ((by rw [hg]; exact Nat.ne_of_lt (blk_lt (g := gb206) (o := .cells #[.int .i64 a0_0, .int .i64 a0_1, .slice (some ad208) l0_2.length c0_2] 25 (0, 0)) (aG_ BK206.out)) : gb206 ≠ gb220))
                                have n7_ := Aside0.mk ((by rw [hg]; exact Nat.ne_of_gt (blk_lt (g := gb206) (o := .cells #[.int .i64 a0_0, .int .i64 a0_1, .slice (some ad208) l0_2.length c0_2] 25 (0, 0)) (aG_ BK206.out)) : gb220 ≠ gb206))
                                have n8_ := Aside0.mk ((by rw [hg]; exact Nat.ne_of_lt (blk_lt (g := gb207) (o := .cells #[.int .i64 0, .int .i64 0, .slice none 0 0] 25 (0, 0)) (aG_ BK207.out)) : gb207 ≠ gb220))
                                have n9_ := Aside0.mk ((by rw [hg]; exact Nat.ne_of_gt (blk_lt (g := gb207) (o := .cells #[.int .i64 0, .int .i64 0, .slice none 0 0] 25 (0, 0)) (aG_ BK207.out)) : gb220 ≠ gb207))
                                clear BK206
                                clear BK207
                                clear HB
                                have BK206 := n0_
                                have BK207 := n1_
                                have HB := n2_
                                have BK220 := n3_
                                have GW220 := n4_
                                have GE220 := n5_
                                have NB206_220 := n6_
                                have NB220_206 := n7_
                                have NB207_220 := n8_
                                have NB220_207 := n9_
                                clear n0_ n1_ n2_ n3_ n4_ n5_ n6_ n7_ n8_ n9_
                                clear hb hbox hg
                                refine hK.out _ _ ⟨(blk_cell BK206.out 0).trans rfl, (blk_cell BK206.out 1).trans rfl, (blk_cell BK206.out 2).trans rfl, ((HB.out.cell (World.block_lt_of_cell? w _ hw208_0)).trans hw208_0), ((HB.out.cell (World.block_lt_of_cell? w _ hw208_1)).trans hw208_1), ((HB.out.cell (World.block_lt_of_cell? w _ hw208_2)).trans hw208_2), ((HB.out.cell (World.block_lt_of_cell? w _ hw214_0)).trans hw214_0), ((HB.out.cell (World.block_lt_of_cell? w _ hw214_1)).trans hw214_1), ((HB.out.cell (World.block_lt_of_cell? w _ hw214_2)).trans hw214_2)⟩ (fun hHeld => ?_)
                                clear hK K
                                refine norm_ (a' := ?_) ?_ ?_
                                rotate_left
                                · show Act.put _ (some 3) _ = _
                                  simp only [Act.put, List.setIfInBounds_toArray, List.set_cons_zero, List.set_cons_succ, i64_w, i32_w]
                                  rfl
                                exact norm_ (by first | (simp only [putAll, Act.put, List.setIfInBounds_toArray, List.set_cons_zero, List.set_cons_succ]; done) | (simp only [putAll, Act.put, List.setIfInBounds_toArray, List.set_cons_zero, List.set_cons_succ]; rfl)) (hJ10 (gb220) _ ⟨hHeld, (aG_ BK206.out), (aG_ BK207.out), (aG_ BK220.out), GW220.out, GE220.out, NB206_220.out, NB220_206.out, NB207_220.out, NB220_207.out, ab12_⟩)
                              · skip
                                refine box_step ?hg (N := 4) ?hd (cs := #[.int .i64 0, .int .i64 0, .slice none 0 0]) (t := 25) ?hr ?_; (case hd => rfl); (case hg => rfl); (case hr => first | (go_simp; done) | (go_simp; rfl))
                                intro gb221 hg w18 hbox hb
                                have n0_ := Aside0.mk (blk_below (g := gb206) (o := .cells #[.int .i64 a0_0, .int .i64 a0_1, .slice (some ad208) l0_2.length c0_2] 25 (0, 0)) (aG_ BK206.out) hb)
                                have n1_ := Aside0.mk (blk_below (g := gb207) (o := .cells #[.int .i64 0, .int .i64 0, .slice none 0 0] 25 (0, 0)) (aG_ BK207.out) hb)
                                have n2_ := Aside0.mk (below_step ab8_ hb)
                                have n3_ := Aside0.mk (hbox)
                                have n4_ := Aside0.mk ((by rw [hg]; exact (below_size ab8_) : w.heap.size ≤ gb221))
                                have n5_ := Aside0.mk ((by rw [hg]; exact (below_size ab8_) : w.heap.size ≤ gb221))
                                have n6_ := Aside0.mk ((by rw [hg]; exact Nat.ne_of_lt (blk_lt (g := gb206) (o := .cells #[.int .i64 a0_0, .int .i64 a0_1, .slice (some ad208) l0_2.length c0_2] 25 (0, 0)) (aG_ BK206.out)) : gb206 ≠ gb221))
                                have n7_ := Aside0.mk ((by rw [hg]; exact Nat.ne_of_gt (blk_lt (g := gb206) (o := .cells #[.int .i64 a0_0, .int .i64 a0_1, .slice (some ad208) l0_2.length c0_2] 25 (0, 0)) (aG_ BK206.out)) : gb221 ≠ gb206))
                                have n8_ := Aside0.mk ((by rw [hg]; exact Nat.ne_of_lt (blk_lt (g := gb207) (o := .cells #[.int .i64 0, .int .i64 0, .slice none 0 0] 25 (0, 0)) (aG_ BK207.out)) : gb207 ≠ gb221))
                                have n9_ := Aside0.mk ((by rw [hg]; exact Nat.ne_of_gt (blk_lt (g := gb207) (o := .cells #[.int .i64 0, .int .i64 0, .slice none 0 0] 25 (0, 0)) (aG_ BK207.out)) : gb221 ≠ gb207))
                                clear BK206
                                clear BK207
                                clear HB
                                have BK206 := n0_
                                have BK207 := n1_
                                have HB := n2_
                                have BK221 := n3_
                                have GW221 := n4_
                                have GE221 := n5_
                                have NB206_221 := n6_
                                have NB221_206 := n7_
                                have NB207_221 := n8_
                                have NB221_207 := n9_
                                clear n0_ n1_ n2_ n3_ n4_ n5_ n6_ n7_ n8_ n9_
                                clear hb hbox hg
                                refine hK.out _ _ ⟨(blk_cell BK206.out 0).trans rfl, (blk_cell BK206.out 1).trans rfl, (blk_cell BK206.out 2).trans rfl, ((HB.out.cell (World.block_lt_of_cell? w _ hw208_0)).trans hw208_0), ((HB.out.cell (World.block_lt_of_cell? w _ hw208_1)).trans hw208_1), ((HB.out.cell (World.block_lt_of_cell? w _ hw208_2)).trans hw208_2), ((HB.out.cell (World.block_lt_of_cell? w _ hw214_0)).trans hw214_0), ((HB.out.cell (World.block_lt_of_cell? w _ hw214_1)).trans hw214_1), ((HB.out.cell (World.block_lt_of_cell? w _ hw214_2)).trans hw214_2)⟩ (fun hHeld => ?_)
                                clear hK K
                                refine norm_ (a' := ?_) ?_ ?_
                                rotate_left
                                · show Act.put _ (some 4) _ = _
                                  simp only [Act.put, List.setIfInBounds_toArray, List.set_cons_zero, List.set_cons_succ, i64_w, i32_w]
                                  rfl
                                exact norm_ (by first | (simp only [putAll, Act.put, List.setIfInBounds_toArray, List.set_cons_zero, List.set_cons_succ]; done) | (simp only [putAll, Act.put, List.setIfInBounds_toArray, List.set_cons_zero, List.set_cons_succ]; rfl)) (hJ11 (gb221) _ ⟨hHeld, (aG_ BK206.out), (aG_ BK207.out), (aG_ BK221.out), GW221.out, GE221.out, NB206_221.out, NB221_206.out, NB207_221.out, NB221_207.out, ab13_⟩)
                            · skip
                              rintro gb221 w19 ⟨hS_, h0_, h1_, h2_, h3_, h4_, h5_, h6_, h7_, h8_, h9_⟩
                              have n0_ : Aside0 (w19.heap[gb206]? = some (.cells #[.int .i64 a0_0, .int .i64 a0_1, .slice (some ad208) l0_2.length c0_2] 25 (0, 0))) := ⟨h0_⟩
                              have n1_ : Aside0 (w19.heap[gb207]? = some (.cells #[.int .i64 0, .int .i64 0, .slice none 0 0] 25 (0, 0))) := ⟨h1_⟩
                              have n2_ : Aside0 (w19.heap[gb221]? = some (.cells #[.int .i64 0, .int .i64 0, .slice none 0 0] 25 (0, 0))) := ⟨h2_⟩
                              have n3_ : Aside0 (w.heap.size ≤ gb221) := ⟨h3_⟩
                              have n4_ : Aside0 (w.heap.size ≤ gb221) := ⟨h4_⟩
                              have n5_ : Aside0 (gb206 ≠ gb221) := ⟨h5_⟩
                              have n6_ : Aside0 (gb221 ≠ gb206) := ⟨h6_⟩
                              have n7_ : Aside0 (gb207 ≠ gb221) := ⟨h7_⟩
                              have n8_ : Aside0 (gb221 ≠ gb207) := ⟨h8_⟩
                              have n9_ : Aside0 (Below w.heap.size w w19) := ⟨h9_⟩
                              clear BK206
                              clear BK207
                              clear HB
                              clear h0_ h1_ h2_ h3_ h4_ h5_ h6_ h7_ h8_ h9_
                              have BK206 := n0_
                              have BK207 := n1_
                              have BK221 := n2_
                              have GW221 := n3_
                              have GE221 := n4_
                              have NB206_221 := n5_
                              have NB221_206 := n6_
                              have NB207_221 := n7_
                              have NB221_207 := n8_
                              have HB := n9_
                              clear n0_ n1_ n2_ n3_ n4_ n5_ n6_ n7_ n8_ n9_
                              have hHeld : w19.cell? ⟨gb206, 0, none⟩ = some (.int .i64 a0_0) ∧ w19.cell? ⟨gb206, 1, none⟩ = some (.int .i64 a0_1) ∧ w19.cell? ⟨gb206, 2, none⟩ = some (.slice (some ad208) l0_2.length c0_2) ∧ w19.cell? ad208 = some (.int .i64 ((rd_T25 l0_2 0).f0)) ∧ w19.cell? ⟨ad208.block, ad208.off + 1, none⟩ = some (.int .i64 ((rd_T25 l0_2 0).f1)) ∧ w19.cell? ⟨ad208.block, ad208.off + 2, none⟩ = some (.slice A208_2 ((rd_T25 l0_2 0).f2).length c208_2) ∧ w19.cell? ⟨ad208.block, ad208.off + 3, none⟩ = some (.int .i64 ((rd_T25 l0_2 1).f0)) ∧ w19.cell? ⟨ad208.block, ad208.off + 3 + 1, none⟩ = some (.int .i64 ((rd_T25 l0_2 1).f1)) ∧ w19.cell? ⟨ad208.block, ad208.off + 3 + 2, none⟩ = some (.slice A214_2 ((rd_T25 l0_2 1).f2).length c214_2) := hS_
                              refine norm_ (a' := ?_) ?_ ?_
                              rotate_left
                              · simp only [putAll, Act.put, List.setIfInBounds_toArray, List.set_cons_zero, List.set_cons_succ]
                                rfl
                              refine two_ (i := 4) (j := 10) (Ni := some 19) (Nj := some 3) #[true, true, true, true, true, true, true, true, true, false, false, true, false, false] #[true, true, true, true, false, true, true, true, true, false, true, true, false, false] rfl rfl rfl rfl (two_of HT_.out (by kernel_rfl)) (by decide) (by decide) (fun K hK => ?_) (fun K hK => ?_)
                              · skip
                                refine goes_ Try.func56 (by kernel_rfl) rfl #[.agg #[.int .i64 ((rd_T25 l0_2 0).f0), .int .i64 ((rd_T25 l0_2 0).f1), .slice A208_2 ((rd_T25 l0_2 0).f2).length c208_2]] (by rfl) rfl rfl ab1_ ?_
                                with_reducible refine (ih k (by omega) ((rd_T25 l0_2 0).f0) ((rd_T25 l0_2 0).f1) _ _ ((rd_T25 l0_2 0).f2) t209 t210 t211 _ ?side1 ?side2 A9.out).mono ?_
                                (case side1 => repeat (first | exact (Kd.C_below HR208_2.out HB.out) | (with_reducible refine Kd.C_alloc ?_ _) | (with_reducible refine Kd.C_drewN ?_ _) | (with_reducible refine Kd.C_drew ?_)))
                                (case side2 => exact HC208_2.out)
                                rintro e w20 ⟨v212, rfl, ho0, hb⟩
                                refine ⟨_, rfl, ?_⟩
                                have n0_ := Aside0.mk (Kd.N_lower (Kd.N_mono (ok' := fun k_ => (w.heap.size ≤ k_) ∧ k_ ≠ gb206 ∧ k_ ≠ gb207 ∧ k_ ≠ gb221) ho0 (fun k_ hk_ => ⟨(Nat.le_trans (below_size ab13_) hk_), (Kd.freshB (g := gb206) (o := .cells #[.int .i64 a0_0, .int .i64 a0_1, .slice (some ad208) l0_2.length c0_2] 25 (0, 0)) (aG_ BK206.out) k_ hk_), (Kd.freshB (g := gb207) (o := .cells #[.int .i64 0, .int .i64 0, .slice none 0 0] 25 (0, 0)) (aG_ BK207.out) k_ hk_), (Kd.freshB (g := gb221) (o := .cells #[.int .i64 0, .int .i64 0, .slice none 0 0] 25 (0, 0)) (aG_ BK221.out) k_ hk_)⟩)) (below_size ab13_))
                                have n1_ := Aside0.mk (blk_below (g := gb206) (o := .cells #[.int .i64 a0_0, .int .i64 a0_1, .slice (some ad208) l0_2.length c0_2] 25 (0, 0)) (aG_ BK206.out) hb)
                                have n2_ := Aside0.mk (blk_below (g := gb207) (o := .cells #[.int .i64 0, .int .i64 0, .slice none 0 0] 25 (0, 0)) (aG_ BK207.out) hb)
                                have n3_ := Aside0.mk (blk_below (g := gb221) (o := .cells #[.int .i64 0, .int .i64 0, .slice none 0 0] 25 (0, 0)) (aG_ BK221.out) hb)
                                have n4_ := Aside0.mk (below_step ab13_ hb)
                                clear BK206
                                clear BK207
                                clear BK221
                                clear HB
                                have HO213 := n0_
                                have BK206 := n1_
                                have BK207 := n2_
                                have BK221 := n3_
                                have HB := n4_
                                clear n0_ n1_ n2_ n3_ n4_
                                (try clear hb)
                                (try clear hb2)
                                (try clear hk)
                                (try clear hi)
                                (try clear ho0)
                                refine hK.out _ _ ⟨(blk_cell BK206.out 0).trans rfl, (blk_cell BK206.out 1).trans rfl, (blk_cell BK206.out 2).trans rfl, ((HB.out.cell (World.block_lt_of_cell? w _ hw208_0)).trans hw208_0), ((HB.out.cell (World.block_lt_of_cell? w _ hw208_1)).trans hw208_1), ((HB.out.cell (World.block_lt_of_cell? w _ hw208_2)).trans hw208_2), ((HB.out.cell (World.block_lt_of_cell? w _ hw214_0)).trans hw214_0), ((HB.out.cell (World.block_lt_of_cell? w _ hw214_1)).trans hw214_1), ((HB.out.cell (World.block_lt_of_cell? w _ hw214_2)).trans hw214_2)⟩ (fun hHeld => ?_)
                                clear hK K
                                refine norm_ (a' := ?_) ?_ ?_
                                rotate_left
                                · show Act.put _ (some 19) _ = _
                                  simp only [Act.put, List.setIfInBounds_toArray, List.set_cons_zero, List.set_cons_succ, i64_w, i32_w]
                                  rfl
                                exact norm_ (by first | (simp only [putAll, Act.put, List.setIfInBounds_toArray, List.set_cons_zero, List.set_cons_succ]; done) | (simp only [putAll, Act.put, List.setIfInBounds_toArray, List.set_cons_zero, List.set_cons_succ]; rfl)) (hJ4_11 (v212, gb221) _ ⟨hHeld, (aN_ HO213.out), (aG_ BK206.out), (aG_ BK207.out), (aG_ BK221.out), GW221.out, GE221.out, NB206_221.out, NB221_206.out, NB207_221.out, NB221_207.out, ab13_⟩)
                              · skip
                                refine box_step ?hg (N := 3) ?hd (cs := #[.int .i64 0, .int .i64 0, .slice none 0 0]) (t := 25) ?hr ?_; (case hd => rfl); (case hg => rfl); (case hr => first | (go_simp; done) | (go_simp; rfl))
                                intro gb220 hg w20 hbox hb
                                have n0_ := Aside0.mk (blk_below (g := gb206) (o := .cells #[.int .i64 a0_0, .int .i64 a0_1, .slice (some ad208) l0_2.length c0_2] 25 (0, 0)) (aG_ BK206.out) hb)
                                have n1_ := Aside0.mk (blk_below (g := gb207) (o := .cells #[.int .i64 0, .int .i64 0, .slice none 0 0] 25 (0, 0)) (aG_ BK207.out) hb)
                                have n2_ := Aside0.mk (blk_below (g := gb221) (o := .cells #[.int .i64 0, .int .i64 0, .slice none 0 0] 25 (0, 0)) (aG_ BK221.out) hb)
                                have n3_ := Aside0.mk (below_step ab13_ hb)
                                have n4_ := Aside0.mk (hbox)
                                have n5_ := Aside0.mk ((by rw [hg]; exact (below_size ab13_) : w.heap.size ≤ gb220))
                                have n6_ := Aside0.mk ((by rw [hg]; exact (below_size ab13_) : w.heap.size ≤ gb220))
                                have n7_ := Aside0.mk ((by rw [hg]; exact Nat.ne_of_lt (blk_lt (g := gb206) (o := .cells #[.int .i64 a0_0, .int .i64 a0_1, .slice (some ad208) l0_2.length c0_2] 25 (0, 0)) (aG_ BK206.out)) : gb206 ≠ gb220))
                                have n8_ := Aside0.mk ((by rw [hg]; exact Nat.ne_of_gt (blk_lt (g := gb206) (o := .cells #[.int .i64 a0_0, .int .i64 a0_1, .slice (some ad208) l0_2.length c0_2] 25 (0, 0)) (aG_ BK206.out)) : gb220 ≠ gb206))
                                have n9_ := Aside0.mk ((by rw [hg]; exact Nat.ne_of_lt (blk_lt (g := gb207) (o := .cells #[.int .i64 0, .int .i64 0, .slice none 0 0] 25 (0, 0)) (aG_ BK207.out)) : gb207 ≠ gb220))
                                have n10_ := Aside0.mk ((by rw [hg]; exact Nat.ne_of_gt (blk_lt (g := gb207) (o := .cells #[.int .i64 0, .int .i64 0, .slice none 0 0] 25 (0, 0)) (aG_ BK207.out)) : gb220 ≠ gb207))
                                have n11_ := Aside0.mk ((by rw [hg]; exact Nat.ne_of_lt (blk_lt (g := gb221) (o := .cells #[.int .i64 0, .int .i64 0, .slice none 0 0] 25 (0, 0)) (aG_ BK221.out)) : gb221 ≠ gb220))
                                have n12_ := Aside0.mk ((by rw [hg]; exact Nat.ne_of_gt (blk_lt (g := gb221) (o := .cells #[.int .i64 0, .int .i64 0, .slice none 0 0] 25 (0, 0)) (aG_ BK221.out)) : gb220 ≠ gb221))
                                clear BK206
                                clear BK207
                                clear BK221
                                clear HB
                                have BK206 := n0_
                                have BK207 := n1_
                                have BK221 := n2_
                                have HB := n3_
                                have BK220 := n4_
                                have GW220 := n5_
                                have GE220 := n6_
                                have NB206_220 := n7_
                                have NB220_206 := n8_
                                have NB207_220 := n9_
                                have NB220_207 := n10_
                                have NB221_220 := n11_
                                have NB220_221 := n12_
                                clear n0_ n1_ n2_ n3_ n4_ n5_ n6_ n7_ n8_ n9_ n10_ n11_ n12_
                                clear hb hbox hg
                                refine hK.out _ _ ⟨(blk_cell BK206.out 0).trans rfl, (blk_cell BK206.out 1).trans rfl, (blk_cell BK206.out 2).trans rfl, ((HB.out.cell (World.block_lt_of_cell? w _ hw208_0)).trans hw208_0), ((HB.out.cell (World.block_lt_of_cell? w _ hw208_1)).trans hw208_1), ((HB.out.cell (World.block_lt_of_cell? w _ hw208_2)).trans hw208_2), ((HB.out.cell (World.block_lt_of_cell? w _ hw214_0)).trans hw214_0), ((HB.out.cell (World.block_lt_of_cell? w _ hw214_1)).trans hw214_1), ((HB.out.cell (World.block_lt_of_cell? w _ hw214_2)).trans hw214_2)⟩ (fun hHeld => ?_)
                                clear hK K
                                refine norm_ (a' := ?_) ?_ ?_
                                rotate_left
                                · show Act.put _ (some 3) _ = _
                                  simp only [Act.put, List.setIfInBounds_toArray, List.set_cons_zero, List.set_cons_succ, i64_w, i32_w]
                                  rfl
                                exact norm_ (by first | (simp only [putAll, Act.put, List.setIfInBounds_toArray, List.set_cons_zero, List.set_cons_succ]; done) | (simp only [putAll, Act.put, List.setIfInBounds_toArray, List.set_cons_zero, List.set_cons_succ]; rfl)) (hJ10_11 (gb220, gb221) _ ⟨hHeld, (aG_ BK206.out), (aG_ BK207.out), (aG_ BK220.out), (aG_ BK221.out), GW220.out, GE220.out, NB206_220.out, NB220_206.out, NB207_220.out, NB220_207.out, NB221_220.out, NB220_221.out, GW221.out, GE221.out, NB206_221.out, NB221_206.out, NB207_221.out, NB221_207.out, ab58_⟩)
                          · skip
                            rintro gb220 w19 ⟨hS_, h0_, h1_, h2_, h3_, h4_, h5_, h6_, h7_, h8_, h9_⟩
                            have n0_ : Aside0 (w19.heap[gb206]? = some (.cells #[.int .i64 a0_0, .int .i64 a0_1, .slice (some ad208) l0_2.length c0_2] 25 (0, 0))) := ⟨h0_⟩
                            have n1_ : Aside0 (w19.heap[gb207]? = some (.cells #[.int .i64 0, .int .i64 0, .slice none 0 0] 25 (0, 0))) := ⟨h1_⟩
                            have n2_ : Aside0 (w19.heap[gb220]? = some (.cells #[.int .i64 0, .int .i64 0, .slice none 0 0] 25 (0, 0))) := ⟨h2_⟩
                            have n3_ : Aside0 (w.heap.size ≤ gb220) := ⟨h3_⟩
                            have n4_ : Aside0 (w.heap.size ≤ gb220) := ⟨h4_⟩
                            have n5_ : Aside0 (gb206 ≠ gb220) := ⟨h5_⟩
                            have n6_ : Aside0 (gb220 ≠ gb206) := ⟨h6_⟩
                            have n7_ : Aside0 (gb207 ≠ gb220) := ⟨h7_⟩
                            have n8_ : Aside0 (gb220 ≠ gb207) := ⟨h8_⟩
                            have n9_ : Aside0 (Below w.heap.size w w19) := ⟨h9_⟩
                            clear BK206
                            clear BK207
                            clear HB
                            clear h0_ h1_ h2_ h3_ h4_ h5_ h6_ h7_ h8_ h9_
                            have BK206 := n0_
                            have BK207 := n1_
                            have BK220 := n2_
                            have GW220 := n3_
                            have GE220 := n4_
                            have NB206_220 := n5_
                            have NB220_206 := n6_
                            have NB207_220 := n7_
                            have NB220_207 := n8_
                            have HB := n9_
                            clear n0_ n1_ n2_ n3_ n4_ n5_ n6_ n7_ n8_ n9_
                            have hHeld : w19.cell? ⟨gb206, 0, none⟩ = some (.int .i64 a0_0) ∧ w19.cell? ⟨gb206, 1, none⟩ = some (.int .i64 a0_1) ∧ w19.cell? ⟨gb206, 2, none⟩ = some (.slice (some ad208) l0_2.length c0_2) ∧ w19.cell? ad208 = some (.int .i64 ((rd_T25 l0_2 0).f0)) ∧ w19.cell? ⟨ad208.block, ad208.off + 1, none⟩ = some (.int .i64 ((rd_T25 l0_2 0).f1)) ∧ w19.cell? ⟨ad208.block, ad208.off + 2, none⟩ = some (.slice A208_2 ((rd_T25 l0_2 0).f2).length c208_2) ∧ w19.cell? ⟨ad208.block, ad208.off + 3, none⟩ = some (.int .i64 ((rd_T25 l0_2 1).f0)) ∧ w19.cell? ⟨ad208.block, ad208.off + 3 + 1, none⟩ = some (.int .i64 ((rd_T25 l0_2 1).f1)) ∧ w19.cell? ⟨ad208.block, ad208.off + 3 + 2, none⟩ = some (.slice A214_2 ((rd_T25 l0_2 1).f2).length c214_2) := hS_
                            refine norm_ (a' := ?_) ?_ ?_
                            rotate_left
                            · simp only [putAll, Act.put, List.setIfInBounds_toArray, List.set_cons_zero, List.set_cons_succ]
                              rfl
                            refine two_ (i := 4) (j := 11) (Ni := some 19) (Nj := some 4) #[true, true, true, true, true, true, true, true, true, false, true, false, false, false] #[true, true, true, true, false, true, true, true, true, false, true, true, false, false] rfl rfl rfl rfl (two_of HT_.out (by kernel_rfl)) (by decide) (by decide) (fun K hK => ?_) (fun K hK => ?_)
                            · skip
                              refine goes_ Try.func56 (by kernel_rfl) rfl #[.agg #[.int .i64 ((rd_T25 l0_2 0).f0), .int .i64 ((rd_T25 l0_2 0).f1), .slice A208_2 ((rd_T25 l0_2 0).f2).length c208_2]] (by rfl) rfl rfl ab1_ ?_
                              with_reducible refine (ih k (by omega) ((rd_T25 l0_2 0).f0) ((rd_T25 l0_2 0).f1) _ _ ((rd_T25 l0_2 0).f2) t209 t210 t211 _ ?side1 ?side2 A9.out).mono ?_
                              (case side1 => repeat (first | exact (Kd.C_below HR208_2.out HB.out) | (with_reducible refine Kd.C_alloc ?_ _) | (with_reducible refine Kd.C_drewN ?_ _) | (with_reducible refine Kd.C_drew ?_)))
                              (case side2 => exact HC208_2.out)
                              rintro e w20 ⟨v212, rfl, ho0, hb⟩
                              refine ⟨_, rfl, ?_⟩
                              have n0_ := Aside0.mk (Kd.N_lower (Kd.N_mono (ok' := fun k_ => (w.heap.size ≤ k_) ∧ k_ ≠ gb206 ∧ k_ ≠ gb207 ∧ k_ ≠ gb220) ho0 (fun k_ hk_ => ⟨(Nat.le_trans (below_size ab12_) hk_), (Kd.freshB (g := gb206) (o := .cells #[.int .i64 a0_0, .int .i64 a0_1, .slice (some ad208) l0_2.length c0_2] 25 (0, 0)) (aG_ BK206.out) k_ hk_), (Kd.freshB (g := gb207) (o := .cells #[.int .i64 0, .int .i64 0, .slice none 0 0] 25 (0, 0)) (aG_ BK207.out) k_ hk_), (Kd.freshB (g := gb220) (o := .cells #[.int .i64 0, .int .i64 0, .slice none 0 0] 25 (0, 0)) (aG_ BK220.out) k_ hk_)⟩)) (below_size ab12_))
                              have n1_ := Aside0.mk (blk_below (g := gb206) (o := .cells #[.int .i64 a0_0, .int .i64 a0_1, .slice (some ad208) l0_2.length c0_2] 25 (0, 0)) (aG_ BK206.out) hb)
                              have n2_ := Aside0.mk (blk_below (g := gb207) (o := .cells #[.int .i64 0, .int .i64 0, .slice none 0 0] 25 (0, 0)) (aG_ BK207.out) hb)
                              have n3_ := Aside0.mk (blk_below (g := gb220) (o := .cells #[.int .i64 0, .int .i64 0, .slice none 0 0] 25 (0, 0)) (aG_ BK220.out) hb)
                              have n4_ := Aside0.mk (below_step ab12_ hb)
                              clear BK206
                              clear BK207
                              clear BK220
                              clear HB
                              have HO213 := n0_
                              have BK206 := n1_
                              have BK207 := n2_
                              have BK220 := n3_
                              have HB := n4_
                              clear n0_ n1_ n2_ n3_ n4_
                              (try clear hb)
                              (try clear hb2)
                              (try clear hk)
                              (try clear hi)
                              (try clear ho0)
                              refine hK.out _ _ ⟨(blk_cell BK206.out 0).trans rfl, (blk_cell BK206.out 1).trans rfl, (blk_cell BK206.out 2).trans rfl, ((HB.out.cell (World.block_lt_of_cell? w _ hw208_0)).trans hw208_0), ((HB.out.cell (World.block_lt_of_cell? w _ hw208_1)).trans hw208_1), ((HB.out.cell (World.block_lt_of_cell? w _ hw208_2)).trans hw208_2), ((HB.out.cell (World.block_lt_of_cell? w _ hw214_0)).trans hw214_0), ((HB.out.cell (World.block_lt_of_cell? w _ hw214_1)).trans hw214_1), ((HB.out.cell (World.block_lt_of_cell? w _ hw214_2)).trans hw214_2)⟩ (fun hHeld => ?_)
                              clear hK K
                              refine norm_ (a' := ?_) ?_ ?_
                              rotate_left
                              · show Act.put _ (some 19) _ = _
                                simp only [Act.put, List.setIfInBounds_toArray, List.set_cons_zero, List.set_cons_succ, i64_w, i32_w]
                                rfl
                              exact norm_ (by first | (simp only [putAll, Act.put, List.setIfInBounds_toArray, List.set_cons_zero, List.set_cons_succ]; done) | (simp only [putAll, Act.put, List.setIfInBounds_toArray, List.set_cons_zero, List.set_cons_succ]; rfl)) (hJ4_10 (v212, gb220) _ ⟨hHeld, (aN_ HO213.out), (aG_ BK206.out), (aG_ BK207.out), (aG_ BK220.out), GW220.out, GE220.out, NB206_220.out, NB220_206.out, NB207_220.out, NB220_207.out, ab12_⟩)
                            · skip
                              refine box_step ?hg (N := 4) ?hd (cs := #[.int .i64 0, .int .i64 0, .slice none 0 0]) (t := 25) ?hr ?_; (case hd => rfl); (case hg => rfl); (case hr => first | (go_simp; done) | (go_simp; rfl))
                              intro gb221 hg w20 hbox hb
                              have n0_ := Aside0.mk (blk_below (g := gb206) (o := .cells #[.int .i64 a0_0, .int .i64 a0_1, .slice (some ad208) l0_2.length c0_2] 25 (0, 0)) (aG_ BK206.out) hb)
                              have n1_ := Aside0.mk (blk_below (g := gb207) (o := .cells #[.int .i64 0, .int .i64 0, .slice none 0 0] 25 (0, 0)) (aG_ BK207.out) hb)
                              have n2_ := Aside0.mk (blk_below (g := gb220) (o := .cells #[.int .i64 0, .int .i64 0, .slice none 0 0] 25 (0, 0)) (aG_ BK220.out) hb)
                              have n3_ := Aside0.mk (below_step ab12_ hb)
                              have n4_ := Aside0.mk (hbox)
                              have n5_ := Aside0.mk ((by rw [hg]; exact (below_size ab12_) : w.heap.size ≤ gb221))
                              have n6_ := Aside0.mk ((by rw [hg]; exact (below_size ab12_) : w.heap.size ≤ gb221))
                              have n7_ := Aside0.mk ((by rw [hg]; exact Nat.ne_of_lt (blk_lt (g := gb206) (o := .cells #[.int .i64 a0_0, .int .i64 a0_1, .slice (some ad208) l0_2.length c0_2] 25 (0, 0)) (aG_ BK206.out)) : gb206 ≠ gb221))
                              have n8_ := Aside0.mk ((by rw [hg]; exact Nat.ne_of_gt (blk_lt (g := gb206) (o := .cells #[.int .i64 a0_0, .int .i64 a0_1, .slice (some ad208) l0_2.length c0_2] 25 (0, 0)) (aG_ BK206.out)) : gb221 ≠ gb206))
                              have n9_ := Aside0.mk ((by rw [hg]; exact Nat.ne_of_lt (blk_lt (g := gb207) (o := .cells #[.int .i64 0, .int .i64 0, .slice none 0 0] 25 (0, 0)) (aG_ BK207.out)) : gb207 ≠ gb221))
                              have n10_ := Aside0.mk ((by rw [hg]; exact Nat.ne_of_gt (blk_lt (g := gb207) (o := .cells #[.int .i64 0, .int .i64 0, .slice none 0 0] 25 (0, 0)) (aG_ BK207.out)) : gb221 ≠ gb207))
                              have n11_ := Aside0.mk ((by rw [hg]; exact Nat.ne_of_lt (blk_lt (g := gb220) (o := .cells #[.int .i64 0, .int .i64 0, .slice none 0 0] 25 (0, 0)) (aG_ BK220.out)) : gb220 ≠ gb221))
                              have n12_ := Aside0.mk ((by rw [hg]; exact Nat.ne_of_gt (blk_lt (g := gb220) (o := .cells #[.int .i64 0, .int .i64 0, .slice none 0 0] 25 (0, 0)) (aG_ BK220.out)) : gb221 ≠ gb220))
                              clear BK206
                              clear BK207
                              clear BK220
                              clear HB
                              have BK206 := n0_
                              have BK207 := n1_
                              have BK220 := n2_
                              have HB := n3_
                              have BK221 := n4_
                              have GW221 := n5_
                              have GE221 := n6_
                              have NB206_221 := n7_
                              have NB221_206 := n8_
                              have NB207_221 := n9_
                              have NB221_207 := n10_
                              have NB220_221 := n11_
                              have NB221_220 := n12_
                              clear n0_ n1_ n2_ n3_ n4_ n5_ n6_ n7_ n8_ n9_ n10_ n11_ n12_
                              clear hb hbox hg
                              refine hK.out _ _ ⟨(blk_cell BK206.out 0).trans rfl, (blk_cell BK206.out 1).trans rfl, (blk_cell BK206.out 2).trans rfl, ((HB.out.cell (World.block_lt_of_cell? w _ hw208_0)).trans hw208_0), ((HB.out.cell (World.block_lt_of_cell? w _ hw208_1)).trans hw208_1), ((HB.out.cell (World.block_lt_of_cell? w _ hw208_2)).trans hw208_2), ((HB.out.cell (World.block_lt_of_cell? w _ hw214_0)).trans hw214_0), ((HB.out.cell (World.block_lt_of_cell? w _ hw214_1)).trans hw214_1), ((HB.out.cell (World.block_lt_of_cell? w _ hw214_2)).trans hw214_2)⟩ (fun hHeld => ?_)
                              clear hK K
                              refine norm_ (a' := ?_) ?_ ?_
                              rotate_left
                              · show Act.put _ (some 4) _ = _
                                simp only [Act.put, List.setIfInBounds_toArray, List.set_cons_zero, List.set_cons_succ, i64_w, i32_w]
                                rfl
                              exact norm_ (by first | (simp only [putAll, Act.put, List.setIfInBounds_toArray, List.set_cons_zero, List.set_cons_succ]; done) | (simp only [putAll, Act.put, List.setIfInBounds_toArray, List.set_cons_zero, List.set_cons_succ]; rfl)) (hJ10_11 (gb220, gb221) _ ⟨hHeld, (aG_ BK206.out), (aG_ BK207.out), (aG_ BK220.out), (aG_ BK221.out), GW220.out, GE220.out, NB206_220.out, NB220_206.out, NB207_220.out, NB220_207.out, NB221_220.out, NB220_221.out, GW221.out, GE221.out, NB206_221.out, NB221_206.out, NB207_221.out, NB221_207.out, ab6_⟩)
                        · skip
                          rintro v212 w19 ⟨hS_, h0_, h1_, h2_, h3_⟩
                          have n0_ : Aside0 (Kd.N k25 25 w19 w.heap.size (fun k_ => (w.heap.size ≤ k_) ∧ k_ ≠ gb206 ∧ k_ ≠ gb207) v212 t211) := ⟨h0_⟩
                          have n1_ : Aside0 (w19.heap[gb206]? = some (.cells #[.int .i64 a0_0, .int .i64 a0_1, .slice (some ad208) l0_2.length c0_2] 25 (0, 0))) := ⟨h1_⟩
                          have n2_ : Aside0 (w19.heap[gb207]? = some (.cells #[.int .i64 0, .int .i64 0, .slice none 0 0] 25 (0, 0))) := ⟨h2_⟩
                          have n3_ : Aside0 (Below w.heap.size w w19) := ⟨h3_⟩
                          clear BK206
                          clear BK207
                          clear HB
                          clear h0_ h1_ h2_ h3_
                          have HO213 := n0_
                          have BK206 := n1_
                          have BK207 := n2_
                          have HB := n3_
                          clear n0_ n1_ n2_ n3_
                          have hHeld : w19.cell? ⟨gb206, 0, none⟩ = some (.int .i64 a0_0) ∧ w19.cell? ⟨gb206, 1, none⟩ = some (.int .i64 a0_1) ∧ w19.cell? ⟨gb206, 2, none⟩ = some (.slice (some ad208) l0_2.length c0_2) ∧ w19.cell? ad208 = some (.int .i64 ((rd_T25 l0_2 0).f0)) ∧ w19.cell? ⟨ad208.block, ad208.off + 1, none⟩ = some (.int .i64 ((rd_T25 l0_2 0).f1)) ∧ w19.cell? ⟨ad208.block, ad208.off + 2, none⟩ = some (.slice A208_2 ((rd_T25 l0_2 0).f2).length c208_2) ∧ w19.cell? ⟨ad208.block, ad208.off + 3, none⟩ = some (.int .i64 ((rd_T25 l0_2 1).f0)) ∧ w19.cell? ⟨ad208.block, ad208.off + 3 + 1, none⟩ = some (.int .i64 ((rd_T25 l0_2 1).f1)) ∧ w19.cell? ⟨ad208.block, ad208.off + 3 + 2, none⟩ = some (.slice A214_2 ((rd_T25 l0_2 1).f2).length c214_2) := hS_
                          refine norm_ (a' := ?_) ?_ ?_
                          rotate_left
                          · simp only [putAll, Act.put, List.setIfInBounds_toArray, List.set_cons_zero, List.set_cons_succ]
                            rfl
                          refine three_ (i := 9) (j := 10) (k := 11) (Ni := some 24) (Nj := some 3) (Nk := some 4) #[true, true, true, true, true, true, true, true, true, true, false, false, false, false] #[true, true, true, true, true, true, true, true, true, false, true, false, false, false] #[true, true, true, true, true, true, true, true, true, false, false, true, false, false] rfl rfl rfl rfl rfl rfl (three_of HT_.out (by kernel_rfl)) (by decide) (by decide) (by decide) (fun K hK => ?_) (fun K hK => ?_) (fun K hK => ?_)
                          · skip
                            refine goes_ Try.func56 (by kernel_rfl) rfl #[.agg #[.int .i64 ((rd_T25 l0_2 1).f0), .int .i64 ((rd_T25 l0_2 1).f1), .slice A214_2 ((rd_T25 l0_2 1).f2).length c214_2]] (by rfl) rfl rfl ab1_ ?_
                            with_reducible refine (ih k (by omega) ((rd_T25 l0_2 1).f0) ((rd_T25 l0_2 1).f1) _ _ ((rd_T25 l0_2 1).f2) t215 t216 t217 _ ?side1 ?side2 A11.out).mono ?_
                            (case side1 => repeat (first | exact (Kd.C_below HR214_2.out HB.out) | (with_reducible refine Kd.C_alloc ?_ _) | (with_reducible refine Kd.C_drewN ?_ _) | (with_reducible refine Kd.C_drew ?_)))
                            (case side2 => exact HC214_2.out)
                            rintro e w20 ⟨v218, rfl, ho0, hb⟩
                            refine ⟨_, rfl, ?_⟩
                            have n0_ := Aside0.mk (Kd.N_elder' (aN_ HO213.out) (by first | exact Kd.N_base ho0 | exact Kd.N_base (Kd.R_N ho0)) hb)
                            have n1_ := Aside0.mk (Kd.N_lower (Kd.N_mono (ok' := fun k_ => (w.heap.size ≤ k_) ∧ some k_ ≠ (v212 : Value).ownBlock ∧ k_ ≠ gb206 ∧ k_ ≠ gb207) ho0 (fun k_ hk_ => ⟨(Nat.le_trans (below_size ab8_) hk_), (Kd.fresh' (Kd.N_lt (aN_ HO213.out)) k_ hk_), (Kd.freshB (g := gb206) (o := .cells #[.int .i64 a0_0, .int .i64 a0_1, .slice (some ad208) l0_2.length c0_2] 25 (0, 0)) (aG_ BK206.out) k_ hk_), (Kd.freshB (g := gb207) (o := .cells #[.int .i64 0, .int .i64 0, .slice none 0 0] 25 (0, 0)) (aG_ BK207.out) k_ hk_)⟩)) (below_size ab8_))
                            have n2_ := Aside0.mk (blk_below (g := gb206) (o := .cells #[.int .i64 a0_0, .int .i64 a0_1, .slice (some ad208) l0_2.length c0_2] 25 (0, 0)) (aG_ BK206.out) hb)
                            have n3_ := Aside0.mk (blk_below (g := gb207) (o := .cells #[.int .i64 0, .int .i64 0, .slice none 0 0] 25 (0, 0)) (aG_ BK207.out) hb)
                            have n4_ := Aside0.mk (below_step ab8_ hb)
                            clear HO213
                            clear BK206
                            clear BK207
                            clear HB
                            have HO213 := n0_
                            have HO219 := n1_
                            have BK206 := n2_
                            have BK207 := n3_
                            have HB := n4_
                            clear n0_ n1_ n2_ n3_ n4_
                            (try clear hb)
                            (try clear hb2)
                            (try clear hk)
                            (try clear hi)
                            (try clear ho0)
                            refine hK.out _ _ ⟨(blk_cell BK206.out 0).trans rfl, (blk_cell BK206.out 1).trans rfl, (blk_cell BK206.out 2).trans rfl, ((HB.out.cell (World.block_lt_of_cell? w _ hw208_0)).trans hw208_0), ((HB.out.cell (World.block_lt_of_cell? w _ hw208_1)).trans hw208_1), ((HB.out.cell (World.block_lt_of_cell? w _ hw208_2)).trans hw208_2), ((HB.out.cell (World.block_lt_of_cell? w _ hw214_0)).trans hw214_0), ((HB.out.cell (World.block_lt_of_cell? w _ hw214_1)).trans hw214_1), ((HB.out.cell (World.block_lt_of_cell? w _ hw214_2)).trans hw214_2)⟩ (fun hHeld => ?_)
                            clear hK K
                            refine norm_ (a' := ?_) ?_ ?_
                            rotate_left
                            · show Act.put _ (some 24) _ = _
                              simp only [Act.put, List.setIfInBounds_toArray, List.set_cons_zero, List.set_cons_succ, i64_w, i32_w]
                              rfl
                            exact norm_ (by first | (simp only [putAll, Act.put, List.setIfInBounds_toArray, List.set_cons_zero, List.set_cons_succ]; done) | (simp only [putAll, Act.put, List.setIfInBounds_toArray, List.set_cons_zero, List.set_cons_succ]; rfl)) (hJ4_9 (v212, v218) _ ⟨hHeld, (by (with_reducible repeat (first | apply Kd.N_alloc | apply Kd.N_drewN | apply Kd.N_drew)); exact Kd.N_mono HO213.out (fun _ hk => ⟨hk.1.1, ⟨hk.2, ⟨hk.1.2.1, hk.1.2.2⟩⟩⟩)), (aN_ HO219.out), (aG_ BK206.out), (aG_ BK207.out), ab8_⟩)
                          · skip
                            refine box_step ?hg (N := 3) ?hd (cs := #[.int .i64 0, .int .i64 0, .slice none 0 0]) (t := 25) ?hr ?_; (case hd => rfl); (case hg => rfl); (case hr => first | (go_simp; done) | (go_simp; rfl))
                            intro gb220 hg w20 hbox hb
                            have n0_ := Aside0.mk (Kd.N_below (Kd.N_elderB (aN_ HO213.out) gb220 (Nat.le_of_eq hg.symm)) hb)
                            have n1_ := Aside0.mk (blk_below (g := gb206) (o := .cells #[.int .i64 a0_0, .int .i64 a0_1, .slice (some ad208) l0_2.length c0_2] 25 (0, 0)) (aG_ BK206.out) hb)
                            have n2_ := Aside0.mk (blk_below (g := gb207) (o := .cells #[.int .i64 0, .int .i64 0, .slice none 0 0] 25 (0, 0)) (aG_ BK207.out) hb)
                            have n3_ := Aside0.mk (below_step ab8_ hb)
                            have n4_ := Aside0.mk (hbox)
                            have n5_ := Aside0.mk ((by rw [hg]; exact (below_size ab8_) : w.heap.size ≤ gb220))
                            have n6_ := Aside0.mk ((by rw [hg]; exact (below_size ab8_) : w.heap.size ≤ gb220))
                            have n7_ := Aside0.mk ((by rw [hg]; exact Nat.ne_of_lt (blk_lt (g := gb206) (o := .cells #[.int .i64 a0_0, .int .i64 a0_1, .slice (some ad208) l0_2.length c0_2] 25 (0, 0)) (aG_ BK206.out)) : gb206 ≠ gb220))
                            have n8_ := Aside0.mk ((by rw [hg]; exact Nat.ne_of_gt (blk_lt (g := gb206) (o := .cells #[.int .i64 a0_0, .int .i64 a0_1, .slice (some ad208) l0_2.length c0_2] 25 (0, 0)) (aG_ BK206.out)) : gb220 ≠ gb206))
                            have n9_ := Aside0.mk ((by rw [hg]; exact Nat.ne_of_lt (blk_lt (g := gb207) (o := .cells #[.int .i64 0, .int .i64 0, .slice none 0 0] 25 (0, 0)) (aG_ BK207.out)) : gb207 ≠ gb220))
                            have n10_ := Aside0.mk ((by rw [hg]; exact Nat.ne_of_gt (blk_lt (g := gb207) (o := .cells #[.int .i64 0, .int .i64 0, .slice none 0 0] 25 (0, 0)) (aG_ BK207.out)) : gb220 ≠ gb207))
                            clear HO213
                            clear BK206
                            clear BK207
                            clear HB
                            have HO213 := n0_
                            have BK206 := n1_
                            have BK207 := n2_
                            have HB := n3_
                            have BK220 := n4_
                            have GW220 := n5_
                            have GE220 := n6_
                            have NB206_220 := n7_
                            have NB220_206 := n8_
                            have NB207_220 := n9_
                            have NB220_207 := n10_
                            clear n0_ n1_ n2_ n3_ n4_ n5_ n6_ n7_ n8_ n9_ n10_
                            clear hb hbox hg
                            refine hK.out _ _ ⟨(blk_cell BK206.out 0).trans rfl, (blk_cell BK206.out 1).trans rfl, (blk_cell BK206.out 2).trans rfl, ((HB.out.cell (World.block_lt_of_cell? w _ hw208_0)).trans hw208_0), ((HB.out.cell (World.block_lt_of_cell? w _ hw208_1)).trans hw208_1), ((HB.out.cell (World.block_lt_of_cell? w _ hw208_2)).trans hw208_2), ((HB.out.cell (World.block_lt_of_cell? w _ hw214_0)).trans hw214_0), ((HB.out.cell (World.block_lt_of_cell? w _ hw214_1)).trans hw214_1), ((HB.out.cell (World.block_lt_of_cell? w _ hw214_2)).trans hw214_2)⟩ (fun hHeld => ?_)
                            clear hK K
                            refine norm_ (a' := ?_) ?_ ?_
                            rotate_left
                            · show Act.put _ (some 3) _ = _
                              simp only [Act.put, List.setIfInBounds_toArray, List.set_cons_zero, List.set_cons_succ, i64_w, i32_w]
                              rfl
                            exact norm_ (by first | (simp only [putAll, Act.put, List.setIfInBounds_toArray, List.set_cons_zero, List.set_cons_succ]; done) | (simp only [putAll, Act.put, List.setIfInBounds_toArray, List.set_cons_zero, List.set_cons_succ]; rfl)) (hJ4_10 (v212, gb220) _ ⟨hHeld, (by (with_reducible repeat (first | apply Kd.N_alloc | apply Kd.N_drewN | apply Kd.N_drew)); exact Kd.N_mono HO213.out (fun _ hk => ⟨hk.1.1, ⟨hk.1.2.1, ⟨hk.1.2.2, hk.2⟩⟩⟩)), (aG_ BK206.out), (aG_ BK207.out), (aG_ BK220.out), GW220.out, GE220.out, NB206_220.out, NB220_206.out, NB207_220.out, NB220_207.out, ab12_⟩)
                          · skip
                            refine box_step ?hg (N := 4) ?hd (cs := #[.int .i64 0, .int .i64 0, .slice none 0 0]) (t := 25) ?hr ?_; (case hd => rfl); (case hg => rfl); (case hr => first | (go_simp; done) | (go_simp; rfl))
                            intro gb221 hg w20 hbox hb
                            have n0_ := Aside0.mk (Kd.N_below (Kd.N_elderB (aN_ HO213.out) gb221 (Nat.le_of_eq hg.symm)) hb)
                            have n1_ := Aside0.mk (blk_below (g := gb206) (o := .cells #[.int .i64 a0_0, .int .i64 a0_1, .slice (some ad208) l0_2.length c0_2] 25 (0, 0)) (aG_ BK206.out) hb)
                            have n2_ := Aside0.mk (blk_below (g := gb207) (o := .cells #[.int .i64 0, .int .i64 0, .slice none 0 0] 25 (0, 0)) (aG_ BK207.out) hb)
                            have n3_ := Aside0.mk (below_step ab8_ hb)
                            have n4_ := Aside0.mk (hbox)
                            have n5_ := Aside0.mk ((by rw [hg]; exact (below_size ab8_) : w.heap.size ≤ gb221))
                            have n6_ := Aside0.mk ((by rw [hg]; exact (below_size ab8_) : w.heap.size ≤ gb221))
                            have n7_ := Aside0.mk ((by rw [hg]; exact Nat.ne_of_lt (blk_lt (g := gb206) (o := .cells #[.int .i64 a0_0, .int .i64 a0_1, .slice (some ad208) l0_2.length c0_2] 25 (0, 0)) (aG_ BK206.out)) : gb206 ≠ gb221))
                            have n8_ := Aside0.mk ((by rw [hg]; exact Nat.ne_of_gt (blk_lt (g := gb206) (o := .cells #[.int .i64 a0_0, .int .i64 a0_1, .slice (some ad208) l0_2.length c0_2] 25 (0, 0)) (aG_ BK206.out)) : gb221 ≠ gb206))
                            have n9_ := Aside0.mk ((by rw [hg]; exact Nat.ne_of_lt (blk_lt (g := gb207) (o := .cells #[.int .i64 0, .int .i64 0, .slice none 0 0] 25 (0, 0)) (aG_ BK207.out)) : gb207 ≠ gb221))
                            have n10_ := Aside0.mk ((by rw [hg]; exact Nat.ne_of_gt (blk_lt (g := gb207) (o := .cells #[.int .i64 0, .int .i64 0, .slice none 0 0] 25 (0, 0)) (aG_ BK207.out)) : gb221 ≠ gb207))
                            clear HO213
                            clear BK206
                            clear BK207
                            clear HB
                            have HO213 := n0_
                            have BK206 := n1_
                            have BK207 := n2_
                            have HB := n3_
                            have BK221 := n4_
                            have GW221 := n5_
                            have GE221 := n6_
                            have NB206_221 := n7_
                            have NB221_206 := n8_
                            have NB207_221 := n9_
                            have NB221_207 := n10_
                            clear n0_ n1_ n2_ n3_ n4_ n5_ n6_ n7_ n8_ n9_ n10_
                            clear hb hbox hg
                            refine hK.out _ _ ⟨(blk_cell BK206.out 0).trans rfl, (blk_cell BK206.out 1).trans rfl, (blk_cell BK206.out 2).trans rfl, ((HB.out.cell (World.block_lt_of_cell? w _ hw208_0)).trans hw208_0), ((HB.out.cell (World.block_lt_of_cell? w _ hw208_1)).trans hw208_1), ((HB.out.cell (World.block_lt_of_cell? w _ hw208_2)).trans hw208_2), ((HB.out.cell (World.block_lt_of_cell? w _ hw214_0)).trans hw214_0), ((HB.out.cell (World.block_lt_of_cell? w _ hw214_1)).trans hw214_1), ((HB.out.cell (World.block_lt_of_cell? w _ hw214_2)).trans hw214_2)⟩ (fun hHeld => ?_)
                            clear hK K
                            refine norm_ (a' := ?_) ?_ ?_
                            rotate_left
                            · show Act.put _ (some 4) _ = _
                              simp only [Act.put, List.setIfInBounds_toArray, List.set_cons_zero, List.set_cons_succ, i64_w, i32_w]
                              rfl
                            exact norm_ (by first | (simp only [putAll, Act.put, List.setIfInBounds_toArray, List.set_cons_zero, List.set_cons_succ]; done) | (simp only [putAll, Act.put, List.setIfInBounds_toArray, List.set_cons_zero, List.set_cons_succ]; rfl)) (hJ4_11 (v212, gb221) _ ⟨hHeld, (by (with_reducible repeat (first | apply Kd.N_alloc | apply Kd.N_drewN | apply Kd.N_drew)); exact Kd.N_mono HO213.out (fun _ hk => ⟨hk.1.1, ⟨hk.1.2.1, ⟨hk.1.2.2, hk.2⟩⟩⟩)), (aG_ BK206.out), (aG_ BK207.out), (aG_ BK221.out), GW221.out, GE221.out, NB206_221.out, NB221_206.out, NB207_221.out, NB221_207.out, ab13_⟩)
                      · skip
                        rintro ⟨gb220, gb221⟩ w20 ⟨hS_, h0_, h1_, h2_, h3_, h4_, h5_, h6_, h7_, h8_, h9_, h10_, h11_, h12_, h13_, h14_, h15_, h16_, h17_, h18_⟩
                        have n0_ : Aside0 (w20.heap[gb206]? = some (.cells #[.int .i64 a0_0, .int .i64 a0_1, .slice (some ad208) l0_2.length c0_2] 25 (0, 0))) := ⟨h0_⟩
                        have n1_ : Aside0 (w20.heap[gb207]? = some (.cells #[.int .i64 0, .int .i64 0, .slice none 0 0] 25 (0, 0))) := ⟨h1_⟩
                        have n2_ : Aside0 (w20.heap[gb220]? = some (.cells #[.int .i64 0, .int .i64 0, .slice none 0 0] 25 (0, 0))) := ⟨h2_⟩
                        have n3_ : Aside0 (w20.heap[gb221]? = some (.cells #[.int .i64 0, .int .i64 0, .slice none 0 0] 25 (0, 0))) := ⟨h3_⟩
                        have n4_ : Aside0 (w.heap.size ≤ gb220) := ⟨h4_⟩
                        have n5_ : Aside0 (w.heap.size ≤ gb220) := ⟨h5_⟩
                        have n6_ : Aside0 (gb206 ≠ gb220) := ⟨h6_⟩
                        have n7_ : Aside0 (gb220 ≠ gb206) := ⟨h7_⟩
                        have n8_ : Aside0 (gb207 ≠ gb220) := ⟨h8_⟩
                        have n9_ : Aside0 (gb220 ≠ gb207) := ⟨h9_⟩
                        have n10_ : Aside0 (gb221 ≠ gb220) := ⟨h10_⟩
                        have n11_ : Aside0 (gb220 ≠ gb221) := ⟨h11_⟩
                        have n12_ : Aside0 (w.heap.size ≤ gb221) := ⟨h12_⟩
                        have n13_ : Aside0 (w.heap.size ≤ gb221) := ⟨h13_⟩
                        have n14_ : Aside0 (gb206 ≠ gb221) := ⟨h14_⟩
                        have n15_ : Aside0 (gb221 ≠ gb206) := ⟨h15_⟩
                        have n16_ : Aside0 (gb207 ≠ gb221) := ⟨h16_⟩
                        have n17_ : Aside0 (gb221 ≠ gb207) := ⟨h17_⟩
                        have n18_ : Aside0 (Below w.heap.size w w20) := ⟨h18_⟩
                        clear BK206
                        clear BK207
                        clear HB
                        clear h0_ h1_ h2_ h3_ h4_ h5_ h6_ h7_ h8_ h9_ h10_ h11_ h12_ h13_ h14_ h15_ h16_ h17_ h18_
                        have BK206 := n0_
                        have BK207 := n1_
                        have BK220 := n2_
                        have BK221 := n3_
                        have GW220 := n4_
                        have GE220 := n5_
                        have NB206_220 := n6_
                        have NB220_206 := n7_
                        have NB207_220 := n8_
                        have NB220_207 := n9_
                        have NB221_220 := n10_
                        have NB220_221 := n11_
                        have GW221 := n12_
                        have GE221 := n13_
                        have NB206_221 := n14_
                        have NB221_206 := n15_
                        have NB207_221 := n16_
                        have NB221_207 := n17_
                        have HB := n18_
                        clear n0_ n1_ n2_ n3_ n4_ n5_ n6_ n7_ n8_ n9_ n10_ n11_ n12_ n13_ n14_ n15_ n16_ n17_ n18_
                        have hHeld : w20.cell? ⟨gb206, 0, none⟩ = some (.int .i64 a0_0) ∧ w20.cell? ⟨gb206, 1, none⟩ = some (.int .i64 a0_1) ∧ w20.cell? ⟨gb206, 2, none⟩ = some (.slice (some ad208) l0_2.length c0_2) ∧ w20.cell? ad208 = some (.int .i64 ((rd_T25 l0_2 0).f0)) ∧ w20.cell? ⟨ad208.block, ad208.off + 1, none⟩ = some (.int .i64 ((rd_T25 l0_2 0).f1)) ∧ w20.cell? ⟨ad208.block, ad208.off + 2, none⟩ = some (.slice A208_2 ((rd_T25 l0_2 0).f2).length c208_2) ∧ w20.cell? ⟨ad208.block, ad208.off + 3, none⟩ = some (.int .i64 ((rd_T25 l0_2 1).f0)) ∧ w20.cell? ⟨ad208.block, ad208.off + 3 + 1, none⟩ = some (.int .i64 ((rd_T25 l0_2 1).f1)) ∧ w20.cell? ⟨ad208.block, ad208.off + 3 + 2, none⟩ = some (.slice A214_2 ((rd_T25 l0_2 1).f2).length c214_2) := hS_
                        refine norm_ (a' := ?_) ?_ ?_
                        rotate_left
                        · simp only [putAll, Act.put, List.setIfInBounds_toArray, List.set_cons_zero, List.set_cons_succ]
                          rfl
                        refine one_ (i := 4) (N := some 19) #[true, true, true, true, true, true, true, true, true, false, true, true, false, false] rfl rfl (one_of HT_.out (by kernel_rfl)) (by decide) (fun K hK => ?_)
                        refine goes_ Try.func56 (by kernel_rfl) rfl #[.agg #[.int .i64 ((rd_T25 l0_2 0).f0), .int .i64 ((rd_T25 l0_2 0).f1), .slice A208_2 ((rd_T25 l0_2 0).f2).length c208_2]] (by rfl) rfl rfl ab1_ ?_
                        with_reducible refine (ih k (by omega) ((rd_T25 l0_2 0).f0) ((rd_T25 l0_2 0).f1) _ _ ((rd_T25 l0_2 0).f2) t209 t210 t211 _ ?side1 ?side2 A9.out).mono ?_
                        (case side1 => repeat (first | exact (Kd.C_below HR208_2.out HB.out) | (with_reducible refine Kd.C_alloc ?_ _) | (with_reducible refine Kd.C_drewN ?_ _) | (with_reducible refine Kd.C_drew ?_)))
                        (case side2 => exact HC208_2.out)
                        rintro e w21 ⟨v212, rfl, ho0, hb⟩
                        refine ⟨_, rfl, ?_⟩
                        have n0_ := Aside0.mk (Kd.N_lower (Kd.N_mono (ok' := fun k_ => (w.heap.size ≤ k_) ∧ k_ ≠ gb206 ∧ k_ ≠ gb207 ∧ k_ ≠ gb220 ∧ k_ ≠ gb221) ho0 (fun k_ hk_ => ⟨(Nat.le_trans (below_size ab6_) hk_), (Kd.freshB (g := gb206) (o := .cells #[.int .i64 a0_0, .int .i64 a0_1, .slice (some ad208) l0_2.length c0_2] 25 (0, 0)) (aG_ BK206.out) k_ hk_), (Kd.freshB (g := gb207) (o := .cells #[.int .i64 0, .int .i64 0, .slice none 0 0] 25 (0, 0)) (aG_ BK207.out) k_ hk_), (Kd.freshB (g := gb220) (o := .cells #[.int .i64 0, .int .i64 0, .slice none 0 0] 25 (0, 0)) (aG_ BK220.out) k_ hk_), (Kd.freshB (g := gb221) (o := .cells #[.int .i64 0, .int .i64 0, .slice none 0 0] 25 (0, 0)) (aG_ BK221.out) k_ hk_)⟩)) (below_size ab6_))
                        have n1_ := Aside0.mk (blk_below (g := gb206) (o := .cells #[.int .i64 a0_0, .int .i64 a0_1, .slice (some ad208) l0_2.length c0_2] 25 (0, 0)) (aG_ BK206.out) hb)
                        have n2_ := Aside0.mk (blk_below (g := gb207) (o := .cells #[.int .i64 0, .int .i64 0, .slice none 0 0] 25 (0, 0)) (aG_ BK207.out) hb)
                        have n3_ := Aside0.mk (blk_below (g := gb220) (o := .cells #[.int .i64 0, .int .i64 0, .slice none 0 0] 25 (0, 0)) (aG_ BK220.out) hb)
                        have n4_ := Aside0.mk (blk_below (g := gb221) (o := .cells #[.int .i64 0, .int .i64 0, .slice none 0 0] 25 (0, 0)) (aG_ BK221.out) hb)
                        have n5_ := Aside0.mk (below_step ab6_ hb)
                        clear BK206
                        clear BK207
                        clear BK220
                        clear BK221
                        clear HB
                        have HO213 := n0_
                        have BK206 := n1_
                        have BK207 := n2_
                        have BK220 := n3_
                        have BK221 := n4_
                        have HB := n5_
                        clear n0_ n1_ n2_ n3_ n4_ n5_
                        (try clear hb)
                        (try clear hb2)
                        (try clear hk)
                        (try clear hi)
                        (try clear ho0)
                        refine hK.out _ _ ⟨(blk_cell BK206.out 0).trans rfl, (blk_cell BK206.out 1).trans rfl, (blk_cell BK206.out 2).trans rfl, ((HB.out.cell (World.block_lt_of_cell? w _ hw208_0)).trans hw208_0), ((HB.out.cell (World.block_lt_of_cell? w _ hw208_1)).trans hw208_1), ((HB.out.cell (World.block_lt_of_cell? w _ hw208_2)).trans hw208_2), ((HB.out.cell (World.block_lt_of_cell? w _ hw214_0)).trans hw214_0), ((HB.out.cell (World.block_lt_of_cell? w _ hw214_1)).trans hw214_1), ((HB.out.cell (World.block_lt_of_cell? w _ hw214_2)).trans hw214_2)⟩ (fun hHeld => ?_)
                        clear hK K
                        refine norm_ (a' := ?_) ?_ ?_
                        rotate_left
                        · show Act.put _ (some 19) _ = _
                          simp only [Act.put, List.setIfInBounds_toArray, List.set_cons_zero, List.set_cons_succ, i64_w, i32_w]
                          rfl
                        exact norm_ (by first | (simp only [putAll, Act.put, List.setIfInBounds_toArray, List.set_cons_zero, List.set_cons_succ]; done) | (simp only [putAll, Act.put, List.setIfInBounds_toArray, List.set_cons_zero, List.set_cons_succ]; rfl)) (hJ4_10_11 (v212, gb220, gb221) _ ⟨hHeld, (aN_ HO213.out), (aG_ BK206.out), (aG_ BK207.out), (aG_ BK220.out), (aG_ BK221.out), GW220.out, GE220.out, NB206_220.out, NB220_206.out, NB207_220.out, NB220_207.out, NB221_220.out, NB220_221.out, GW221.out, GE221.out, NB206_221.out, NB221_206.out, NB207_221.out, NB221_207.out, ab6_⟩)
                    · skip
                      rintro ⟨v212, gb221⟩ w20 ⟨hS_, h0_, h1_, h2_, h3_, h4_, h5_, h6_, h7_, h8_, h9_, h10_⟩
                      have n0_ : Aside0 (Kd.N k25 25 w20 w.heap.size (fun k_ => (w.heap.size ≤ k_) ∧ k_ ≠ gb206 ∧ k_ ≠ gb207 ∧ k_ ≠ gb221) v212 t211) := ⟨h0_⟩
                      have n1_ : Aside0 (w20.heap[gb206]? = some (.cells #[.int .i64 a0_0, .int .i64 a0_1, .slice (some ad208) l0_2.length c0_2] 25 (0, 0))) := ⟨h1_⟩
                      have n2_ : Aside0 (w20.heap[gb207]? = some (.cells #[.int .i64 0, .int .i64 0, .slice none 0 0] 25 (0, 0))) := ⟨h2_⟩
                      have n3_ : Aside0 (w20.heap[gb221]? = some (.cells #[.int .i64 0, .int .i64 0, .slice none 0 0] 25 (0, 0))) := ⟨h3_⟩
                      have n4_ : Aside0 (w.heap.size ≤ gb221) := ⟨h4_⟩
                      have n5_ : Aside0 (w.heap.size ≤ gb221) := ⟨h5_⟩
                      have n6_ : Aside0 (gb206 ≠ gb221) := ⟨h6_⟩
                      have n7_ : Aside0 (gb221 ≠ gb206) := ⟨h7_⟩
                      have n8_ : Aside0 (gb207 ≠ gb221) := ⟨h8_⟩
                      have n9_ : Aside0 (gb221 ≠ gb207) := ⟨h9_⟩
                      have n10_ : Aside0 (Below w.heap.size w w20) := ⟨h10_⟩
                      clear BK206
                      clear BK207
                      clear HB
                      clear h0_ h1_ h2_ h3_ h4_ h5_ h6_ h7_ h8_ h9_ h10_
                      have HO213 := n0_
                      have BK206 := n1_
                      have BK207 := n2_
                      have BK221 := n3_
                      have GW221 := n4_
                      have GE221 := n5_
                      have NB206_221 := n6_
                      have NB221_206 := n7_
                      have NB207_221 := n8_
                      have NB221_207 := n9_
                      have HB := n10_
                      clear n0_ n1_ n2_ n3_ n4_ n5_ n6_ n7_ n8_ n9_ n10_
                      have hHeld : w20.cell? ⟨gb206, 0, none⟩ = some (.int .i64 a0_0) ∧ w20.cell? ⟨gb206, 1, none⟩ = some (.int .i64 a0_1) ∧ w20.cell? ⟨gb206, 2, none⟩ = some (.slice (some ad208) l0_2.length c0_2) ∧ w20.cell? ad208 = some (.int .i64 ((rd_T25 l0_2 0).f0)) ∧ w20.cell? ⟨ad208.block, ad208.off + 1, none⟩ = some (.int .i64 ((rd_T25 l0_2 0).f1)) ∧ w20.cell? ⟨ad208.block, ad208.off + 2, none⟩ = some (.slice A208_2 ((rd_T25 l0_2 0).f2).length c208_2) ∧ w20.cell? ⟨ad208.block, ad208.off + 3, none⟩ = some (.int .i64 ((rd_T25 l0_2 1).f0)) ∧ w20.cell? ⟨ad208.block, ad208.off + 3 + 1, none⟩ = some (.int .i64 ((rd_T25 l0_2 1).f1)) ∧ w20.cell? ⟨ad208.block, ad208.off + 3 + 2, none⟩ = some (.slice A214_2 ((rd_T25 l0_2 1).f2).length c214_2) := hS_
                      refine norm_ (a' := ?_) ?_ ?_
                      rotate_left
                      · simp only [putAll, Act.put, List.setIfInBounds_toArray, List.set_cons_zero, List.set_cons_succ]
                        rfl
                      refine two_ (i := 9) (j := 10) (Ni := some 24) (Nj := some 3) #[true, true, true, true, true, true, true, true, true, true, false, true, false, false] #[true, true, true, true, true, true, true, true, true, false, true, true, false, false] rfl rfl rfl rfl (two_of HT_.out (by kernel_rfl)) (by decide) (by decide) (fun K hK => ?_) (fun K hK => ?_)
                      · skip
                        refine goes_ Try.func56 (by kernel_rfl) rfl #[.agg #[.int .i64 ((rd_T25 l0_2 1).f0), .int .i64 ((rd_T25 l0_2 1).f1), .slice A214_2 ((rd_T25 l0_2 1).f2).length c214_2]] (by rfl) rfl rfl ab1_ ?_
                        with_reducible refine (ih k (by omega) ((rd_T25 l0_2 1).f0) ((rd_T25 l0_2 1).f1) _ _ ((rd_T25 l0_2 1).f2) t215 t216 t217 _ ?side1 ?side2 A11.out).mono ?_
                        (case side1 => repeat (first | exact (Kd.C_below HR214_2.out HB.out) | (with_reducible refine Kd.C_alloc ?_ _) | (with_reducible refine Kd.C_drewN ?_ _) | (with_reducible refine Kd.C_drew ?_)))
                        (case side2 => exact HC214_2.out)
                        rintro e w21 ⟨v218, rfl, ho0, hb⟩
                        refine ⟨_, rfl, ?_⟩
                        have n0_ := Aside0.mk (Kd.N_elder' (aN_ HO213.out) (by first | exact Kd.N_base ho0 | exact Kd.N_base (Kd.R_N ho0)) hb)
                        have n1_ := Aside0.mk (Kd.N_lower (Kd.N_mono (ok' := fun k_ => (w.heap.size ≤ k_) ∧ some k_ ≠ (v212 : Value).ownBlock ∧ k_ ≠ gb206 ∧ k_ ≠ gb207 ∧ k_ ≠ gb221) ho0 (fun k_ hk_ => ⟨(Nat.le_trans (below_size ab13_) hk_), (Kd.fresh' (Kd.N_lt (aN_ HO213.out)) k_ hk_), (Kd.freshB (g := gb206) (o := .cells #[.int .i64 a0_0, .int .i64 a0_1, .slice (some ad208) l0_2.length c0_2] 25 (0, 0)) (aG_ BK206.out) k_ hk_), (Kd.freshB (g := gb207) (o := .cells #[.int .i64 0, .int .i64 0, .slice none 0 0] 25 (0, 0)) (aG_ BK207.out) k_ hk_), (Kd.freshB (g := gb221) (o := .cells #[.int .i64 0, .int .i64 0, .slice none 0 0] 25 (0, 0)) (aG_ BK221.out) k_ hk_)⟩)) (below_size ab13_))
                        have n2_ := Aside0.mk (blk_below (g := gb206) (o := .cells #[.int .i64 a0_0, .int .i64 a0_1, .slice (some ad208) l0_2.length c0_2] 25 (0, 0)) (aG_ BK206.out) hb)
                        have n3_ := Aside0.mk (blk_below (g := gb207) (o := .cells #[.int .i64 0, .int .i64 0, .slice none 0 0] 25 (0, 0)) (aG_ BK207.out) hb)
                        have n4_ := Aside0.mk (blk_below (g := gb221) (o := .cells #[.int .i64 0, .int .i64 0, .slice none 0 0] 25 (0, 0)) (aG_ BK221.out) hb)
                        have n5_ := Aside0.mk (below_step ab13_ hb)
                        clear HO213
                        clear BK206
                        clear BK207
                        clear BK221
                        clear HB
                        have HO213 := n0_
                        have HO219 := n1_
                        have BK206 := n2_
                        have BK207 := n3_
                        have BK221 := n4_
                        have HB := n5_
                        clear n0_ n1_ n2_ n3_ n4_ n5_
                        (try clear hb)
                        (try clear hb2)
                        (try clear hk)
                        (try clear hi)
                        (try clear ho0)
                        refine hK.out _ _ ⟨(blk_cell BK206.out 0).trans rfl, (blk_cell BK206.out 1).trans rfl, (blk_cell BK206.out 2).trans rfl, ((HB.out.cell (World.block_lt_of_cell? w _ hw208_0)).trans hw208_0), ((HB.out.cell (World.block_lt_of_cell? w _ hw208_1)).trans hw208_1), ((HB.out.cell (World.block_lt_of_cell? w _ hw208_2)).trans hw208_2), ((HB.out.cell (World.block_lt_of_cell? w _ hw214_0)).trans hw214_0), ((HB.out.cell (World.block_lt_of_cell? w _ hw214_1)).trans hw214_1), ((HB.out.cell (World.block_lt_of_cell? w _ hw214_2)).trans hw214_2)⟩ (fun hHeld => ?_)
                        clear hK K
                        refine norm_ (a' := ?_) ?_ ?_
                        rotate_left
                        · show Act.put _ (some 24) _ = _
                          simp only [Act.put, List.setIfInBounds_toArray, List.set_cons_zero, List.set_cons_succ, i64_w, i32_w]
                          rfl
                        exact norm_ (by first | (simp only [putAll, Act.put, List.setIfInBounds_toArray, List.set_cons_zero, List.set_cons_succ]; done) | (simp only [putAll, Act.put, List.setIfInBounds_toArray, List.set_cons_zero, List.set_cons_succ]; rfl)) (hJ4_9_11 (v212, v218, gb221) _ ⟨hHeld, (by (with_reducible repeat (first | apply Kd.N_alloc | apply Kd.N_drewN | apply Kd.N_drew)); exact Kd.N_mono HO213.out (fun _ hk => ⟨hk.1.1, ⟨hk.2, ⟨hk.1.2.1, ⟨hk.1.2.2.1, hk.1.2.2.2⟩⟩⟩⟩)), (aN_ HO219.out), (aG_ BK206.out), (aG_ BK207.out), (aG_ BK221.out), GW221.out, GE221.out, NB206_221.out, NB221_206.out, NB207_221.out, NB221_207.out, ab13_⟩)
                      · skip
                        refine box_step ?hg (N := 3) ?hd (cs := #[.int .i64 0, .int .i64 0, .slice none 0 0]) (t := 25) ?hr ?_; (case hd => rfl); (case hg => rfl); (case hr => first | (go_simp; done) | (go_simp; rfl))
                        intro gb220 hg w21 hbox hb
                        have n0_ := Aside0.mk (Kd.N_below (Kd.N_elderB (aN_ HO213.out) gb220 (Nat.le_of_eq hg.symm)) hb)
                        have n1_ := Aside0.mk (blk_below (g := gb206) (o := .cells #[.int .i64 a0_0, .int .i64 a0_1, .slice (some ad208) l0_2.length c0_2] 25 (0, 0)) (aG_ BK206.out) hb)
                        have n2_ := Aside0.mk (blk_below (g := gb207) (o := .cells #[.int .i64 0, .int .i64 0, .slice none 0 0] 25 (0, 0)) (aG_ BK207.out) hb)
                        have n3_ := Aside0.mk (blk_below (g := gb221) (o := .cells #[.int .i64 0, .int .i64 0, .slice none 0 0] 25 (0, 0)) (aG_ BK221.out) hb)
                        have n4_ := Aside0.mk (below_step ab13_ hb)
                        have n5_ := Aside0.mk (hbox)
                        have n6_ := Aside0.mk ((by rw [hg]; exact (below_size ab13_) : w.heap.size ≤ gb220))
                        have n7_ := Aside0.mk ((by rw [hg]; exact (below_size ab13_) : w.heap.size ≤ gb220))
                        have n8_ := Aside0.mk ((by rw [hg]; exact Nat.ne_of_lt (blk_lt (g := gb206) (o := .cells #[.int .i64 a0_0, .int .i64 a0_1, .slice (some ad208) l0_2.length c0_2] 25 (0, 0)) (aG_ BK206.out)) : gb206 ≠ gb220))
                        have n9_ := Aside0.mk ((by rw [hg]; exact Nat.ne_of_gt (blk_lt (g := gb206) (o := .cells #[.int .i64 a0_0, .int .i64 a0_1, .slice (some ad208) l0_2.length c0_2] 25 (0, 0)) (aG_ BK206.out)) : gb220 ≠ gb206))
                        have n10_ := Aside0.mk ((by rw [hg]; exact Nat.ne_of_lt (blk_lt (g := gb207) (o := .cells #[.int .i64 0, .int .i64 0, .slice none 0 0] 25 (0, 0)) (aG_ BK207.out)) : gb207 ≠ gb220))
                        have n11_ := Aside0.mk ((by rw [hg]; exact Nat.ne_of_gt (blk_lt (g := gb207) (o := .cells #[.int .i64 0, .int .i64 0, .slice none 0 0] 25 (0, 0)) (aG_ BK207.out)) : gb220 ≠ gb207))
                        have n12_ := Aside0.mk ((by rw [hg]; exact Nat.ne_of_lt (blk_lt (g := gb221) (o := .cells #[.int .i64 0, .int .i64 0, .slice none 0 0] 25 (0, 0)) (aG_ BK221.out)) : gb221 ≠ gb220))
                        have n13_ := Aside0.mk ((by rw [hg]; exact Nat.ne_of_gt (blk_lt (g := gb221) (o := .cells #[.int .i64 0, .int .i64 0, .slice none 0 0] 25 (0, 0)) (aG_ BK221.out)) : gb220 ≠ gb221))
                        clear HO213
                        clear BK206
                        clear BK207
                        clear BK221
                        clear HB
                        have HO213 := n0_
                        have BK206 := n1_
                        have BK207 := n2_
                        have BK221 := n3_
                        have HB := n4_
                        have BK220 := n5_
                        have GW220 := n6_
                        have GE220 := n7_
                        have NB206_220 := n8_
                        have NB220_206 := n9_
                        have NB207_220 := n10_
                        have NB220_207 := n11_
                        have NB221_220 := n12_
                        have NB220_221 := n13_
                        clear n0_ n1_ n2_ n3_ n4_ n5_ n6_ n7_ n8_ n9_ n10_ n11_ n12_ n13_
                        clear hb hbox hg
                        refine hK.out _ _ ⟨(blk_cell BK206.out 0).trans rfl, (blk_cell BK206.out 1).trans rfl, (blk_cell BK206.out 2).trans rfl, ((HB.out.cell (World.block_lt_of_cell? w _ hw208_0)).trans hw208_0), ((HB.out.cell (World.block_lt_of_cell? w _ hw208_1)).trans hw208_1), ((HB.out.cell (World.block_lt_of_cell? w _ hw208_2)).trans hw208_2), ((HB.out.cell (World.block_lt_of_cell? w _ hw214_0)).trans hw214_0), ((HB.out.cell (World.block_lt_of_cell? w _ hw214_1)).trans hw214_1), ((HB.out.cell (World.block_lt_of_cell? w _ hw214_2)).trans hw214_2)⟩ (fun hHeld => ?_)
                        clear hK K
                        refine norm_ (a' := ?_) ?_ ?_
                        rotate_left
                        · show Act.put _ (some 3) _ = _
                          simp only [Act.put, List.setIfInBounds_toArray, List.set_cons_zero, List.set_cons_succ, i64_w, i32_w]
                          rfl
                        exact norm_ (by first | (simp only [putAll, Act.put, List.setIfInBounds_toArray, List.set_cons_zero, List.set_cons_succ]; done) | (simp only [putAll, Act.put, List.setIfInBounds_toArray, List.set_cons_zero, List.set_cons_succ]; rfl)) (hJ4_10_11 (v212, gb220, gb221) _ ⟨hHeld, (by (with_reducible repeat (first | apply Kd.N_alloc | apply Kd.N_drewN | apply Kd.N_drew)); exact Kd.N_mono HO213.out (fun _ hk => ⟨hk.1.1, ⟨hk.1.2.1, ⟨hk.1.2.2.1, ⟨hk.2, hk.1.2.2.2⟩⟩⟩⟩)), (aG_ BK206.out), (aG_ BK207.out), (aG_ BK220.out), (aG_ BK221.out), GW220.out, GE220.out, NB206_220.out, NB220_206.out, NB207_220.out, NB220_207.out, NB221_220.out, NB220_221.out, GW221.out, GE221.out, NB206_221.out, NB221_206.out, NB207_221.out, NB221_207.out, ab58_⟩)
                  · skip
                    rintro ⟨v212, gb220⟩ w20 ⟨hS_, h0_, h1_, h2_, h3_, h4_, h5_, h6_, h7_, h8_, h9_, h10_⟩
                    have n0_ : Aside0 (Kd.N k25 25 w20 w.heap.size (fun k_ => (w.heap.size ≤ k_) ∧ k_ ≠ gb206 ∧ k_ ≠ gb207 ∧ k_ ≠ gb220) v212 t211) := ⟨h0_⟩
                    have n1_ : Aside0 (w20.heap[gb206]? = some (.cells #[.int .i64 a0_0, .int .i64 a0_1, .slice (some ad208) l0_2.length c0_2] 25 (0, 0))) := ⟨h1_⟩
                    have n2_ : Aside0 (w20.heap[gb207]? = some (.cells #[.int .i64 0, .int .i64 0, .slice none 0 0] 25 (0, 0))) := ⟨h2_⟩
                    have n3_ : Aside0 (w20.heap[gb220]? = some (.cells #[.int .i64 0, .int .i64 0, .slice none 0 0] 25 (0, 0))) := ⟨h3_⟩
                    have n4_ : Aside0 (w.heap.size ≤ gb220) := ⟨h4_⟩
                    have n5_ : Aside0 (w.heap.size ≤ gb220) := ⟨h5_⟩
                    have n6_ : Aside0 (gb206 ≠ gb220) := ⟨h6_⟩
                    have n7_ : Aside0 (gb220 ≠ gb206) := ⟨h7_⟩
                    have n8_ : Aside0 (gb207 ≠ gb220) := ⟨h8_⟩
                    have n9_ : Aside0 (gb220 ≠ gb207) := ⟨h9_⟩
                    have n10_ : Aside0 (Below w.heap.size w w20) := ⟨h10_⟩
                    clear BK206
                    clear BK207
                    clear HB
                    clear h0_ h1_ h2_ h3_ h4_ h5_ h6_ h7_ h8_ h9_ h10_
                    have HO213 := n0_
                    have BK206 := n1_
                    have BK207 := n2_
                    have BK220 := n3_
                    have GW220 := n4_
                    have GE220 := n5_
                    have NB206_220 := n6_
                    have NB220_206 := n7_
                    have NB207_220 := n8_
                    have NB220_207 := n9_
                    have HB := n10_
                    clear n0_ n1_ n2_ n3_ n4_ n5_ n6_ n7_ n8_ n9_ n10_
                    have hHeld : w20.cell? ⟨gb206, 0, none⟩ = some (.int .i64 a0_0) ∧ w20.cell? ⟨gb206, 1, none⟩ = some (.int .i64 a0_1) ∧ w20.cell? ⟨gb206, 2, none⟩ = some (.slice (some ad208) l0_2.length c0_2) ∧ w20.cell? ad208 = some (.int .i64 ((rd_T25 l0_2 0).f0)) ∧ w20.cell? ⟨ad208.block, ad208.off + 1, none⟩ = some (.int .i64 ((rd_T25 l0_2 0).f1)) ∧ w20.cell? ⟨ad208.block, ad208.off + 2, none⟩ = some (.slice A208_2 ((rd_T25 l0_2 0).f2).length c208_2) ∧ w20.cell? ⟨ad208.block, ad208.off + 3, none⟩ = some (.int .i64 ((rd_T25 l0_2 1).f0)) ∧ w20.cell? ⟨ad208.block, ad208.off + 3 + 1, none⟩ = some (.int .i64 ((rd_T25 l0_2 1).f1)) ∧ w20.cell? ⟨ad208.block, ad208.off + 3 + 2, none⟩ = some (.slice A214_2 ((rd_T25 l0_2 1).f2).length c214_2) := hS_
                    refine norm_ (a' := ?_) ?_ ?_
                    rotate_left
                    · simp only [putAll, Act.put, List.setIfInBounds_toArray, List.set_cons_zero, List.set_cons_succ]
                      rfl
                    refine two_ (i := 9) (j := 11) (Ni := some 24) (Nj := some 4) #[true, true, true, true, true, true, true, true, true, true, true, false, false, false] #[true, true, true, true, true, true, true, true, true, false, true, true, false, false] rfl rfl rfl rfl (two_of HT_.out (by kernel_rfl)) (by decide) (by decide) (fun K hK => ?_) (fun K hK => ?_)
                    · skip
                      refine goes_ Try.func56 (by kernel_rfl) rfl #[.agg #[.int .i64 ((rd_T25 l0_2 1).f0), .int .i64 ((rd_T25 l0_2 1).f1), .slice A214_2 ((rd_T25 l0_2 1).f2).length c214_2]] (by rfl) rfl rfl ab1_ ?_
                      with_reducible refine (ih k (by omega) ((rd_T25 l0_2 1).f0) ((rd_T25 l0_2 1).f1) _ _ ((rd_T25 l0_2 1).f2) t215 t216 t217 _ ?side1 ?side2 A11.out).mono ?_
                      (case side1 => repeat (first | exact (Kd.C_below HR214_2.out HB.out) | (with_reducible refine Kd.C_alloc ?_ _) | (with_reducible refine Kd.C_drewN ?_ _) | (with_reducible refine Kd.C_drew ?_)))
                      (case side2 => exact HC214_2.out)
                      rintro e w21 ⟨v218, rfl, ho0, hb⟩
                      refine ⟨_, rfl, ?_⟩
                      have n0_ := Aside0.mk (Kd.N_elder' (aN_ HO213.out) (by first | exact Kd.N_base ho0 | exact Kd.N_base (Kd.R_N ho0)) hb)
                      have n1_ := Aside0.mk (Kd.N_lower (Kd.N_mono (ok' := fun k_ => (w.heap.size ≤ k_) ∧ some k_ ≠ (v212 : Value).ownBlock ∧ k_ ≠ gb206 ∧ k_ ≠ gb207 ∧ k_ ≠ gb220) ho0 (fun k_ hk_ => ⟨(Nat.le_trans (below_size ab12_) hk_), (Kd.fresh' (Kd.N_lt (aN_ HO213.out)) k_ hk_), (Kd.freshB (g := gb206) (o := .cells #[.int .i64 a0_0, .int .i64 a0_1, .slice (some ad208) l0_2.length c0_2] 25 (0, 0)) (aG_ BK206.out) k_ hk_), (Kd.freshB (g := gb207) (o := .cells #[.int .i64 0, .int .i64 0, .slice none 0 0] 25 (0, 0)) (aG_ BK207.out) k_ hk_), (Kd.freshB (g := gb220) (o := .cells #[.int .i64 0, .int .i64 0, .slice none 0 0] 25 (0, 0)) (aG_ BK220.out) k_ hk_)⟩)) (below_size ab12_))
                      have n2_ := Aside0.mk (blk_below (g := gb206) (o := .cells #[.int .i64 a0_0, .int .i64 a0_1, .slice (some ad208) l0_2.length c0_2] 25 (0, 0)) (aG_ BK206.out) hb)
                      have n3_ := Aside0.mk (blk_below (g := gb207) (o := .cells #[.int .i64 0, .int .i64 0, .slice none 0 0] 25 (0, 0)) (aG_ BK207.out) hb)
                      have n4_ := Aside0.mk (blk_below (g := gb220) (o := .cells #[.int .i64 0, .int .i64 0, .slice none 0 0] 25 (0, 0)) (aG_ BK220.out) hb)
                      have n5_ := Aside0.mk (below_step ab12_ hb)
                      clear HO213
                      clear BK206
                      clear BK207
                      clear BK220
                      clear HB
                      have HO213 := n0_
                      have HO219 := n1_
                      have BK206 := n2_
                      have BK207 := n3_
                      have BK220 := n4_
                      have HB := n5_
                      clear n0_ n1_ n2_ n3_ n4_ n5_
                      (try clear hb)
                      (try clear hb2)
                      (try clear hk)
                      (try clear hi)
                      (try clear ho0)
                      refine hK.out _ _ ⟨(blk_cell BK206.out 0).trans rfl, (blk_cell BK206.out 1).trans rfl, (blk_cell BK206.out 2).trans rfl, ((HB.out.cell (World.block_lt_of_cell? w _ hw208_0)).trans hw208_0), ((HB.out.cell (World.block_lt_of_cell? w _ hw208_1)).trans hw208_1), ((HB.out.cell (World.block_lt_of_cell? w _ hw208_2)).trans hw208_2), ((HB.out.cell (World.block_lt_of_cell? w _ hw214_0)).trans hw214_0), ((HB.out.cell (World.block_lt_of_cell? w _ hw214_1)).trans hw214_1), ((HB.out.cell (World.block_lt_of_cell? w _ hw214_2)).trans hw214_2)⟩ (fun hHeld => ?_)
                      clear hK K
                      refine norm_ (a' := ?_) ?_ ?_
                      rotate_left
                      · show Act.put _ (some 24) _ = _
                        simp only [Act.put, List.setIfInBounds_toArray, List.set_cons_zero, List.set_cons_succ, i64_w, i32_w]
                        rfl
                      exact norm_ (by first | (simp only [putAll, Act.put, List.setIfInBounds_toArray, List.set_cons_zero, List.set_cons_succ]; done) | (simp only [putAll, Act.put, List.setIfInBounds_toArray, List.set_cons_zero, List.set_cons_succ]; rfl)) (hJ4_9_10 (v212, v218, gb220) _ ⟨hHeld, (by (with_reducible repeat (first | apply Kd.N_alloc | apply Kd.N_drewN | apply Kd.N_drew)); exact Kd.N_mono HO213.out (fun _ hk => ⟨hk.1.1, ⟨hk.2, ⟨hk.1.2.1, ⟨hk.1.2.2.1, hk.1.2.2.2⟩⟩⟩⟩)), (aN_ HO219.out), (aG_ BK206.out), (aG_ BK207.out), (aG_ BK220.out), GW220.out, GE220.out, NB206_220.out, NB220_206.out, NB207_220.out, NB220_207.out, ab12_⟩)
                    · skip
                      refine box_step ?hg (N := 4) ?hd (cs := #[.int .i64 0, .int .i64 0, .slice none 0 0]) (t := 25) ?hr ?_; (case hd => rfl); (case hg => rfl); (case hr => first | (go_simp; done) | (go_simp; rfl))
                      intro gb221 hg w21 hbox hb
                      have n0_ := Aside0.mk (Kd.N_below (Kd.N_elderB (aN_ HO213.out) gb221 (Nat.le_of_eq hg.symm)) hb)
                      have n1_ := Aside0.mk (blk_below (g := gb206) (o := .cells #[.int .i64 a0_0, .int .i64 a0_1, .slice (some ad208) l0_2.length c0_2] 25 (0, 0)) (aG_ BK206.out) hb)
                      have n2_ := Aside0.mk (blk_below (g := gb207) (o := .cells #[.int .i64 0, .int .i64 0, .slice none 0 0] 25 (0, 0)) (aG_ BK207.out) hb)
                      have n3_ := Aside0.mk (blk_below (g := gb220) (o := .cells #[.int .i64 0, .int .i64 0, .slice none 0 0] 25 (0, 0)) (aG_ BK220.out) hb)
                      have n4_ := Aside0.mk (below_step ab12_ hb)
                      have n5_ := Aside0.mk (hbox)
                      have n6_ := Aside0.mk ((by rw [hg]; exact (below_size ab12_) : w.heap.size ≤ gb221))
                      have n7_ := Aside0.mk ((by rw [hg]; exact (below_size ab12_) : w.heap.size ≤ gb221))
                      have n8_ := Aside0.mk ((by rw [hg]; exact Nat.ne_of_lt (blk_lt (g := gb206) (o := .cells #[.int .i64 a0_0, .int .i64 a0_1, .slice (some ad208) l0_2.length c0_2] 25 (0, 0)) (aG_ BK206.out)) : gb206 ≠ gb221))
                      have n9_ := Aside0.mk ((by rw [hg]; exact Nat.ne_of_gt (blk_lt (g := gb206) (o := .cells #[.int .i64 a0_0, .int .i64 a0_1, .slice (some ad208) l0_2.length c0_2] 25 (0, 0)) (aG_ BK206.out)) : gb221 ≠ gb206))
                      have n10_ := Aside0.mk ((by rw [hg]; exact Nat.ne_of_lt (blk_lt (g := gb207) (o := .cells #[.int .i64 0, .int .i64 0, .slice none 0 0] 25 (0, 0)) (aG_ BK207.out)) : gb207 ≠ gb221))
                      have n11_ := Aside0.mk ((by rw [hg]; exact Nat.ne_of_gt (blk_lt (g := gb207) (o := .cells #[.int .i64 0, .int .i64 0, .slice none 0 0] 25 (0, 0)) (aG_ BK207.out)) : gb221 ≠ gb207))
                      have n12_ := Aside0.mk ((by rw [hg]; exact Nat.ne_of_lt (blk_lt (g := gb220) (o := .cells #[.int .i64 0, .int .i64 0, .slice none 0 0] 25 (0, 0)) (aG_ BK220.out)) : gb220 ≠ gb221))
                      have n13_ := Aside0.mk ((by rw [hg]; exact Nat.ne_of_gt (blk_lt (g := gb220) (o := .cells #[.int .i64 0, .int .i64 0, .slice none 0 0] 25 (0, 0)) (aG_ BK220.out)) : gb221 ≠ gb220))
                      clear HO213
                      clear BK206
                      clear BK207
                      clear BK220
                      clear HB
                      have HO213 := n0_
                      have BK206 := n1_
                      have BK207 := n2_
                      have BK220 := n3_
                      have HB := n4_
                      have BK221 := n5_
                      have GW221 := n6_
                      have GE221 := n7_
                      have NB206_221 := n8_
                      have NB221_206 := n9_
                      have NB207_221 := n10_
                      have NB221_207 := n11_
                      have NB220_221 := n12_
                      have NB221_220 := n13_
                      clear n0_ n1_ n2_ n3_ n4_ n5_ n6_ n7_ n8_ n9_ n10_ n11_ n12_ n13_
                      clear hb hbox hg
                      refine hK.out _ _ ⟨(blk_cell BK206.out 0).trans rfl, (blk_cell BK206.out 1).trans rfl, (blk_cell BK206.out 2).trans rfl, ((HB.out.cell (World.block_lt_of_cell? w _ hw208_0)).trans hw208_0), ((HB.out.cell (World.block_lt_of_cell? w _ hw208_1)).trans hw208_1), ((HB.out.cell (World.block_lt_of_cell? w _ hw208_2)).trans hw208_2), ((HB.out.cell (World.block_lt_of_cell? w _ hw214_0)).trans hw214_0), ((HB.out.cell (World.block_lt_of_cell? w _ hw214_1)).trans hw214_1), ((HB.out.cell (World.block_lt_of_cell? w _ hw214_2)).trans hw214_2)⟩ (fun hHeld => ?_)
                      clear hK K
                      refine norm_ (a' := ?_) ?_ ?_
                      rotate_left
                      · show Act.put _ (some 4) _ = _
                        simp only [Act.put, List.setIfInBounds_toArray, List.set_cons_zero, List.set_cons_succ, i64_w, i32_w]
                        rfl
                      exact norm_ (by first | (simp only [putAll, Act.put, List.setIfInBounds_toArray, List.set_cons_zero, List.set_cons_succ]; done) | (simp only [putAll, Act.put, List.setIfInBounds_toArray, List.set_cons_zero, List.set_cons_succ]; rfl)) (hJ4_10_11 (v212, gb220, gb221) _ ⟨hHeld, (by (with_reducible repeat (first | apply Kd.N_alloc | apply Kd.N_drewN | apply Kd.N_drew)); exact Kd.N_mono HO213.out (fun _ hk => ⟨hk.1.1, ⟨hk.1.2.1, ⟨hk.1.2.2.1, ⟨hk.1.2.2.2, hk.2⟩⟩⟩⟩)), (aG_ BK206.out), (aG_ BK207.out), (aG_ BK220.out), (aG_ BK221.out), GW220.out, GE220.out, NB206_220.out, NB220_206.out, NB207_220.out, NB220_207.out, NB221_220.out, NB220_221.out, GW221.out, GE221.out, NB206_221.out, NB221_206.out, NB207_221.out, NB221_207.out, ab6_⟩)
                · skip
                  rintro ⟨v212, v218⟩ w20 ⟨hS_, h0_, h1_, h2_, h3_, h4_⟩
                  have n0_ : Aside0 (Kd.N k25 25 w20 w.heap.size (fun k_ => (w.heap.size ≤ k_) ∧ some k_ ≠ (v218 : Value).ownBlock ∧ k_ ≠ gb206 ∧ k_ ≠ gb207) v212 t211) := ⟨h0_⟩
                  have n1_ : Aside0 (Kd.N k25 25 w20 w.heap.size (fun k_ => (w.heap.size ≤ k_) ∧ some k_ ≠ (v212 : Value).ownBlock ∧ k_ ≠ gb206 ∧ k_ ≠ gb207) v218 t217) := ⟨h1_⟩
                  have n2_ : Aside0 (w20.heap[gb206]? = some (.cells #[.int .i64 a0_0, .int .i64 a0_1, .slice (some ad208) l0_2.length c0_2] 25 (0, 0))) := ⟨h2_⟩
                  have n3_ : Aside0 (w20.heap[gb207]? = some (.cells #[.int .i64 0, .int .i64 0, .slice none 0 0] 25 (0, 0))) := ⟨h3_⟩
                  have n4_ : Aside0 (Below w.heap.size w w20) := ⟨h4_⟩
                  clear BK206
                  clear BK207
                  clear HB
                  clear h0_ h1_ h2_ h3_ h4_
                  have HO213 := n0_
                  have HO219 := n1_
                  have BK206 := n2_
                  have BK207 := n3_
                  have HB := n4_
                  clear n0_ n1_ n2_ n3_ n4_
                  have hHeld : w20.cell? ⟨gb206, 0, none⟩ = some (.int .i64 a0_0) ∧ w20.cell? ⟨gb206, 1, none⟩ = some (.int .i64 a0_1) ∧ w20.cell? ⟨gb206, 2, none⟩ = some (.slice (some ad208) l0_2.length c0_2) ∧ w20.cell? ad208 = some (.int .i64 ((rd_T25 l0_2 0).f0)) ∧ w20.cell? ⟨ad208.block, ad208.off + 1, none⟩ = some (.int .i64 ((rd_T25 l0_2 0).f1)) ∧ w20.cell? ⟨ad208.block, ad208.off + 2, none⟩ = some (.slice A208_2 ((rd_T25 l0_2 0).f2).length c208_2) ∧ w20.cell? ⟨ad208.block, ad208.off + 3, none⟩ = some (.int .i64 ((rd_T25 l0_2 1).f0)) ∧ w20.cell? ⟨ad208.block, ad208.off + 3 + 1, none⟩ = some (.int .i64 ((rd_T25 l0_2 1).f1)) ∧ w20.cell? ⟨ad208.block, ad208.off + 3 + 2, none⟩ = some (.slice A214_2 ((rd_T25 l0_2 1).f2).length c214_2) := hS_
                  refine norm_ (a' := ?_) ?_ ?_
                  rotate_left
                  · simp only [putAll, Act.put, List.setIfInBounds_toArray, List.set_cons_zero, List.set_cons_succ]
                    rfl
                  refine two_ (i := 10) (j := 11) (Ni := some 3) (Nj := some 4) #[true, true, true, true, true, true, true, true, true, true, true, false, false, false] #[true, true, true, true, true, true, true, true, true, true, false, true, false, false] rfl rfl rfl rfl (two_of HT_.out (by kernel_rfl)) (by decide) (by decide) (fun K hK => ?_) (fun K hK => ?_)
                  · skip
                    refine box_step ?hg (N := 3) ?hd (cs := #[.int .i64 0, .int .i64 0, .slice none 0 0]) (t := 25) ?hr ?_; (case hd => rfl); (case hg => rfl); (case hr => first | (go_simp; done) | (go_simp; rfl))
                    intro gb220 hg w21 hbox hb
                    have n0_ := Aside0.mk (Kd.N_below (Kd.N_elderB (aN_ HO213.out) gb220 (Nat.le_of_eq hg.symm)) hb)
                    have n1_ := Aside0.mk (Kd.N_below (Kd.N_elderB (aN_ HO219.out) gb220 (Nat.le_of_eq hg.symm)) hb)
                    have n2_ := Aside0.mk (blk_below (g := gb206) (o := .cells #[.int .i64 a0_0, .int .i64 a0_1, .slice (some ad208) l0_2.length c0_2] 25 (0, 0)) (aG_ BK206.out) hb)
                    have n3_ := Aside0.mk (blk_below (g := gb207) (o := .cells #[.int .i64 0, .int .i64 0, .slice none 0 0] 25 (0, 0)) (aG_ BK207.out) hb)
                    have n4_ := Aside0.mk (below_step ab8_ hb)
                    have n5_ := Aside0.mk (hbox)
                    have n6_ := Aside0.mk ((by rw [hg]; exact (below_size ab8_) : w.heap.size ≤ gb220))
                    have n7_ := Aside0.mk ((by rw [hg]; exact (below_size ab8_) : w.heap.size ≤ gb220))
                    have n8_ := Aside0.mk ((by rw [hg]; exact Nat.ne_of_lt (blk_lt (g := gb206) (o := .cells #[.int .i64 a0_0, .int .i64 a0_1, .slice (some ad208) l0_2.length c0_2] 25 (0, 0)) (aG_ BK206.out)) : gb206 ≠ gb220))
                    have n9_ := Aside0.mk ((by rw [hg]; exact Nat.ne_of_gt (blk_lt (g := gb206) (o := .cells #[.int .i64 a0_0, .int .i64 a0_1, .slice (some ad208) l0_2.length c0_2] 25 (0, 0)) (aG_ BK206.out)) : gb220 ≠ gb206))
                    have n10_ := Aside0.mk ((by rw [hg]; exact Nat.ne_of_lt (blk_lt (g := gb207) (o := .cells #[.int .i64 0, .int .i64 0, .slice none 0 0] 25 (0, 0)) (aG_ BK207.out)) : gb207 ≠ gb220))
                    have n11_ := Aside0.mk ((by rw [hg]; exact Nat.ne_of_gt (blk_lt (g := gb207) (o := .cells #[.int .i64 0, .int .i64 0, .slice none 0 0] 25 (0, 0)) (aG_ BK207.out)) : gb220 ≠ gb207))
                    clear HO213
                    clear HO219
                    clear BK206
                    clear BK207
                    clear HB
                    have HO213 := n0_
                    have HO219 := n1_
                    have BK206 := n2_
                    have BK207 := n3_
                    have HB := n4_
                    have BK220 := n5_
                    have GW220 := n6_
                    have GE220 := n7_
                    have NB206_220 := n8_
                    have NB220_206 := n9_
                    have NB207_220 := n10_
                    have NB220_207 := n11_
                    clear n0_ n1_ n2_ n3_ n4_ n5_ n6_ n7_ n8_ n9_ n10_ n11_
                    clear hb hbox hg
                    refine hK.out _ _ ⟨(blk_cell BK206.out 0).trans rfl, (blk_cell BK206.out 1).trans rfl, (blk_cell BK206.out 2).trans rfl, ((HB.out.cell (World.block_lt_of_cell? w _ hw208_0)).trans hw208_0), ((HB.out.cell (World.block_lt_of_cell? w _ hw208_1)).trans hw208_1), ((HB.out.cell (World.block_lt_of_cell? w _ hw208_2)).trans hw208_2), ((HB.out.cell (World.block_lt_of_cell? w _ hw214_0)).trans hw214_0), ((HB.out.cell (World.block_lt_of_cell? w _ hw214_1)).trans hw214_1), ((HB.out.cell (World.block_lt_of_cell? w _ hw214_2)).trans hw214_2)⟩ (fun hHeld => ?_)
                    clear hK K
                    refine norm_ (a' := ?_) ?_ ?_
                    rotate_left
                    · show Act.put _ (some 3) _ = _
                      simp only [Act.put, List.setIfInBounds_toArray, List.set_cons_zero, List.set_cons_succ, i64_w, i32_w]
                      rfl
                    exact norm_ (by first | (simp only [putAll, Act.put, List.setIfInBounds_toArray, List.set_cons_zero, List.set_cons_succ]; done) | (simp only [putAll, Act.put, List.setIfInBounds_toArray, List.set_cons_zero, List.set_cons_succ]; rfl)) (hJ4_9_10 (v212, v218, gb220) _ ⟨hHeld, (by (with_reducible repeat (first | apply Kd.N_alloc | apply Kd.N_drewN | apply Kd.N_drew)); exact Kd.N_mono HO213.out (fun _ hk => ⟨hk.1.1, ⟨hk.1.2.1, ⟨hk.1.2.2.1, ⟨hk.1.2.2.2, hk.2⟩⟩⟩⟩)), (by (with_reducible repeat (first | apply Kd.N_alloc | apply Kd.N_drewN | apply Kd.N_drew)); exact Kd.N_mono HO219.out (fun _ hk => ⟨hk.1.1, ⟨hk.1.2.1, ⟨hk.1.2.2.1, ⟨hk.1.2.2.2, hk.2⟩⟩⟩⟩)), (aG_ BK206.out), (aG_ BK207.out), (aG_ BK220.out), GW220.out, GE220.out, NB206_220.out, NB220_206.out, NB207_220.out, NB220_207.out, ab12_⟩)
                  · skip
                    refine box_step ?hg (N := 4) ?hd (cs := #[.int .i64 0, .int .i64 0, .slice none 0 0]) (t := 25) ?hr ?_; (case hd => rfl); (case hg => rfl); (case hr => first | (go_simp; done) | (go_simp; rfl))
                    intro gb221 hg w21 hbox hb
                    have n0_ := Aside0.mk (Kd.N_below (Kd.N_elderB (aN_ HO213.out) gb221 (Nat.le_of_eq hg.symm)) hb)
                    have n1_ := Aside0.mk (Kd.N_below (Kd.N_elderB (aN_ HO219.out) gb221 (Nat.le_of_eq hg.symm)) hb)
                    have n2_ := Aside0.mk (blk_below (g := gb206) (o := .cells #[.int .i64 a0_0, .int .i64 a0_1, .slice (some ad208) l0_2.length c0_2] 25 (0, 0)) (aG_ BK206.out) hb)
                    have n3_ := Aside0.mk (blk_below (g := gb207) (o := .cells #[.int .i64 0, .int .i64 0, .slice none 0 0] 25 (0, 0)) (aG_ BK207.out) hb)
                    have n4_ := Aside0.mk (below_step ab8_ hb)
                    have n5_ := Aside0.mk (hbox)
                    have n6_ := Aside0.mk ((by rw [hg]; exact (below_size ab8_) : w.heap.size ≤ gb221))
                    have n7_ := Aside0.mk ((by rw [hg]; exact (below_size ab8_) : w.heap.size ≤ gb221))
                    have n8_ := Aside0.mk ((by rw [hg]; exact Nat.ne_of_lt (blk_lt (g := gb206) (o := .cells #[.int .i64 a0_0, .int .i64 a0_1, .slice (some ad208) l0_2.length c0_2] 25 (0, 0)) (aG_ BK206.out)) : gb206 ≠ gb221))
                    have n9_ := Aside0.mk ((by rw [hg]; exact Nat.ne_of_gt (blk_lt (g := gb206) (o := .cells #[.int .i64 a0_0, .int .i64 a0_1, .slice (some ad208) l0_2.length c0_2] 25 (0, 0)) (aG_ BK206.out)) : gb221 ≠ gb206))
                    have n10_ := Aside0.mk ((by rw [hg]; exact Nat.ne_of_lt (blk_lt (g := gb207) (o := .cells #[.int .i64 0, .int .i64 0, .slice none 0 0] 25 (0, 0)) (aG_ BK207.out)) : gb207 ≠ gb221))
                    have n11_ := Aside0.mk ((by rw [hg]; exact Nat.ne_of_gt (blk_lt (g := gb207) (o := .cells #[.int .i64 0, .int .i64 0, .slice none 0 0] 25 (0, 0)) (aG_ BK207.out)) : gb221 ≠ gb207))
                    clear HO213
                    clear HO219
                    clear BK206
                    clear BK207
                    clear HB
                    have HO213 := n0_
                    have HO219 := n1_
                    have BK206 := n2_
                    have BK207 := n3_
                    have HB := n4_
                    have BK221 := n5_
                    have GW221 := n6_
                    have GE221 := n7_
                    have NB206_221 := n8_
                    have NB221_206 := n9_
                    have NB207_221 := n10_
                    have NB221_207 := n11_
                    clear n0_ n1_ n2_ n3_ n4_ n5_ n6_ n7_ n8_ n9_ n10_ n11_
                    clear hb hbox hg
                    refine hK.out _ _ ⟨(blk_cell BK206.out 0).trans rfl, (blk_cell BK206.out 1).trans rfl, (blk_cell BK206.out 2).trans rfl, ((HB.out.cell (World.block_lt_of_cell? w _ hw208_0)).trans hw208_0), ((HB.out.cell (World.block_lt_of_cell? w _ hw208_1)).trans hw208_1), ((HB.out.cell (World.block_lt_of_cell? w _ hw208_2)).trans hw208_2), ((HB.out.cell (World.block_lt_of_cell? w _ hw214_0)).trans hw214_0), ((HB.out.cell (World.block_lt_of_cell? w _ hw214_1)).trans hw214_1), ((HB.out.cell (World.block_lt_of_cell? w _ hw214_2)).trans hw214_2)⟩ (fun hHeld => ?_)
                    clear hK K
                    refine norm_ (a' := ?_) ?_ ?_
                    rotate_left
                    · show Act.put _ (some 4) _ = _
                      simp only [Act.put, List.setIfInBounds_toArray, List.set_cons_zero, List.set_cons_succ, i64_w, i32_w]
                      rfl
                    exact norm_ (by first | (simp only [putAll, Act.put, List.setIfInBounds_toArray, List.set_cons_zero, List.set_cons_succ]; done) | (simp only [putAll, Act.put, List.setIfInBounds_toArray, List.set_cons_zero, List.set_cons_succ]; rfl)) (hJ4_9_11 (v212, v218, gb221) _ ⟨hHeld, (by (with_reducible repeat (first | apply Kd.N_alloc | apply Kd.N_drewN | apply Kd.N_drew)); exact Kd.N_mono HO213.out (fun _ hk => ⟨hk.1.1, ⟨hk.1.2.1, ⟨hk.1.2.2.1, ⟨hk.1.2.2.2, hk.2⟩⟩⟩⟩)), (by (with_reducible repeat (first | apply Kd.N_alloc | apply Kd.N_drewN | apply Kd.N_drew)); exact Kd.N_mono HO219.out (fun _ hk => ⟨hk.1.1, ⟨hk.1.2.1, ⟨hk.1.2.2.1, ⟨hk.1.2.2.2, hk.2⟩⟩⟩⟩)), (aG_ BK206.out), (aG_ BK207.out), (aG_ BK221.out), GW221.out, GE221.out, NB206_221.out, NB221_206.out, NB207_221.out, NB221_207.out, ab13_⟩)
              · skip
                rintro ⟨v212, gb220, gb221⟩ w21 ⟨hS_, h0_, h1_, h2_, h3_, h4_, h5_, h6_, h7_, h8_, h9_, h10_, h11_, h12_, h13_, h14_, h15_, h16_, h17_, h18_, h19_⟩
                have n0_ : Aside0 (Kd.N k25 25 w21 w.heap.size (fun k_ => (w.heap.size ≤ k_) ∧ k_ ≠ gb206 ∧ k_ ≠ gb207 ∧ k_ ≠ gb220 ∧ k_ ≠ gb221) v212 t211) := ⟨h0_⟩
                have n1_ : Aside0 (w21.heap[gb206]? = some (.cells #[.int .i64 a0_0, .int .i64 a0_1, .slice (some ad208) l0_2.length c0_2] 25 (0, 0))) := ⟨h1_⟩
                have n2_ : Aside0 (w21.heap[gb207]? = some (.cells #[.int .i64 0, .int .i64 0, .slice none 0 0] 25 (0, 0))) := ⟨h2_⟩
                have n3_ : Aside0 (w21.heap[gb220]? = some (.cells #[.int .i64 0, .int .i64 0, .slice none 0 0] 25 (0, 0))) := ⟨h3_⟩
                have n4_ : Aside0 (w21.heap[gb221]? = some (.cells #[.int .i64 0, .int .i64 0, .slice none 0 0] 25 (0, 0))) := ⟨h4_⟩
                have n5_ : Aside0 (w.heap.size ≤ gb220) := ⟨h5_⟩
                have n6_ : Aside0 (w.heap.size ≤ gb220) := ⟨h6_⟩
                have n7_ : Aside0 (gb206 ≠ gb220) := ⟨h7_⟩
                have n8_ : Aside0 (gb220 ≠ gb206) := ⟨h8_⟩
                have n9_ : Aside0 (gb207 ≠ gb220) := ⟨h9_⟩
                have n10_ : Aside0 (gb220 ≠ gb207) := ⟨h10_⟩
                have n11_ : Aside0 (gb221 ≠ gb220) := ⟨h11_⟩
                have n12_ : Aside0 (gb220 ≠ gb221) := ⟨h12_⟩
                have n13_ : Aside0 (w.heap.size ≤ gb221) := ⟨h13_⟩
                have n14_ : Aside0 (w.heap.size ≤ gb221) := ⟨h14_⟩
                have n15_ : Aside0 (gb206 ≠ gb221) := ⟨h15_⟩
                have n16_ : Aside0 (gb221 ≠ gb206) := ⟨h16_⟩
                have n17_ : Aside0 (gb207 ≠ gb221) := ⟨h17_⟩
                have n18_ : Aside0 (gb221 ≠ gb207) := ⟨h18_⟩
                have n19_ : Aside0 (Below w.heap.size w w21) := ⟨h19_⟩
                clear BK206
                clear BK207
                clear HB
                clear h0_ h1_ h2_ h3_ h4_ h5_ h6_ h7_ h8_ h9_ h10_ h11_ h12_ h13_ h14_ h15_ h16_ h17_ h18_ h19_
                have HO213 := n0_
                have BK206 := n1_
                have BK207 := n2_
                have BK220 := n3_
                have BK221 := n4_
                have GW220 := n5_
                have GE220 := n6_
                have NB206_220 := n7_
                have NB220_206 := n8_
                have NB207_220 := n9_
                have NB220_207 := n10_
                have NB221_220 := n11_
                have NB220_221 := n12_
                have GW221 := n13_
                have GE221 := n14_
                have NB206_221 := n15_
                have NB221_206 := n16_
                have NB207_221 := n17_
                have NB221_207 := n18_
                have HB := n19_
                clear n0_ n1_ n2_ n3_ n4_ n5_ n6_ n7_ n8_ n9_ n10_ n11_ n12_ n13_ n14_ n15_ n16_ n17_ n18_ n19_
                have hHeld : w21.cell? ⟨gb206, 0, none⟩ = some (.int .i64 a0_0) ∧ w21.cell? ⟨gb206, 1, none⟩ = some (.int .i64 a0_1) ∧ w21.cell? ⟨gb206, 2, none⟩ = some (.slice (some ad208) l0_2.length c0_2) ∧ w21.cell? ad208 = some (.int .i64 ((rd_T25 l0_2 0).f0)) ∧ w21.cell? ⟨ad208.block, ad208.off + 1, none⟩ = some (.int .i64 ((rd_T25 l0_2 0).f1)) ∧ w21.cell? ⟨ad208.block, ad208.off + 2, none⟩ = some (.slice A208_2 ((rd_T25 l0_2 0).f2).length c208_2) ∧ w21.cell? ⟨ad208.block, ad208.off + 3, none⟩ = some (.int .i64 ((rd_T25 l0_2 1).f0)) ∧ w21.cell? ⟨ad208.block, ad208.off + 3 + 1, none⟩ = some (.int .i64 ((rd_T25 l0_2 1).f1)) ∧ w21.cell? ⟨ad208.block, ad208.off + 3 + 2, none⟩ = some (.slice A214_2 ((rd_T25 l0_2 1).f2).length c214_2) := hS_
                refine norm_ (a' := ?_) ?_ ?_
                rotate_left
                · simp only [putAll, Act.put, List.setIfInBounds_toArray, List.set_cons_zero, List.set_cons_succ]
                  rfl
                refine one_ (i := 9) (N := some 24) #[true, true, true, true, true, true, true, true, true, true, true, true, false, false] rfl rfl (one_of HT_.out (by kernel_rfl)) (by decide) (fun K hK => ?_)
                refine goes_ Try.func56 (by kernel_rfl) rfl #[.agg #[.int .i64 ((rd_T25 l0_2 1).f0), .int .i64 ((rd_T25 l0_2 1).f1), .slice A214_2 ((rd_T25 l0_2 1).f2).length c214_2]] (by rfl) rfl rfl ab1_ ?_
                with_reducible refine (ih k (by omega) ((rd_T25 l0_2 1).f0) ((rd_T25 l0_2 1).f1) _ _ ((rd_T25 l0_2 1).f2) t215 t216 t217 _ ?side1 ?side2 A11.out).mono ?_
                (case side1 => repeat (first | exact (Kd.C_below HR214_2.out HB.out) | (with_reducible refine Kd.C_alloc ?_ _) | (with_reducible refine Kd.C_drewN ?_ _) | (with_reducible refine Kd.C_drew ?_)))
                (case side2 => exact HC214_2.out)
                rintro e w22 ⟨v218, rfl, ho0, hb⟩
                refine ⟨_, rfl, ?_⟩
                have n0_ := Aside0.mk (Kd.N_elder' (aN_ HO213.out) (by first | exact Kd.N_base ho0 | exact Kd.N_base (Kd.R_N ho0)) hb)
                have n1_ := Aside0.mk (Kd.N_lower (Kd.N_mono (ok' := fun k_ => (w.heap.size ≤ k_) ∧ some k_ ≠ (v212 : Value).ownBlock ∧ k_ ≠ gb206 ∧ k_ ≠ gb207 ∧ k_ ≠ gb220 ∧ k_ ≠ gb221) ho0 (fun k_ hk_ => ⟨(Nat.le_trans (below_size ab6_) hk_), (Kd.fresh' (Kd.N_lt (aN_ HO213.out)) k_ hk_), (Kd.freshB (g := gb206) (o := .cells #[.int .i64 a0_0, .int .i64 a0_1, .slice (some ad208) l0_2.length c0_2] 25 (0, 0)) (aG_ BK206.out) k_ hk_), (Kd.freshB (g := gb207) (o := .cells #[.int .i64 0, .int .i64 0, .slice none 0 0] 25 (0, 0)) (aG_ BK207.out) k_ hk_), (Kd.freshB (g := gb220) (o := .cells #[.int .i64 0, .int .i64 0, .slice none 0 0] 25 (0, 0)) (aG_ BK220.out) k_ hk_), (Kd.freshB (g := gb221) (o := .cells #[.int .i64 0, .int .i64 0, .slice none 0 0] 25 (0, 0)) (aG_ BK221.out) k_ hk_)⟩)) (below_size ab6_))
                have n2_ := Aside0.mk (blk_below (g := gb206) (o := .cells #[.int .i64 a0_0, .int .i64 a0_1, .slice (some ad208) l0_2.length c0_2] 25 (0, 0)) (aG_ BK206.out) hb)
                have n3_ := Aside0.mk (blk_below (g := gb207) (o := .cells #[.int .i64 0, .int .i64 0, .slice none 0 0] 25 (0, 0)) (aG_ BK207.out) hb)
                have n4_ := Aside0.mk (blk_below (g := gb220) (o := .cells #[.int .i64 0, .int .i64 0, .slice none 0 0] 25 (0, 0)) (aG_ BK220.out) hb)
                have n5_ := Aside0.mk (blk_below (g := gb221) (o := .cells #[.int .i64 0, .int .i64 0, .slice none 0 0] 25 (0, 0)) (aG_ BK221.out) hb)
                have n6_ := Aside0.mk (below_step ab6_ hb)
                clear HO213
                clear BK206
                clear BK207
                clear BK220
                clear BK221
                clear HB
                have HO213 := n0_
                have HO219 := n1_
                have BK206 := n2_
                have BK207 := n3_
                have BK220 := n4_
                have BK221 := n5_
                have HB := n6_
                clear n0_ n1_ n2_ n3_ n4_ n5_ n6_
                (try clear hb)
                (try clear hb2)
                (try clear hk)
                (try clear hi)
                (try clear ho0)
                refine hK.out _ _ ⟨(blk_cell BK206.out 0).trans rfl, (blk_cell BK206.out 1).trans rfl, (blk_cell BK206.out 2).trans rfl, ((HB.out.cell (World.block_lt_of_cell? w _ hw208_0)).trans hw208_0), ((HB.out.cell (World.block_lt_of_cell? w _ hw208_1)).trans hw208_1), ((HB.out.cell (World.block_lt_of_cell? w _ hw208_2)).trans hw208_2), ((HB.out.cell (World.block_lt_of_cell? w _ hw214_0)).trans hw214_0), ((HB.out.cell (World.block_lt_of_cell? w _ hw214_1)).trans hw214_1), ((HB.out.cell (World.block_lt_of_cell? w _ hw214_2)).trans hw214_2)⟩ (fun hHeld => ?_)
                clear hK K
                refine norm_ (a' := ?_) ?_ ?_
                rotate_left
                · show Act.put _ (some 24) _ = _
                  simp only [Act.put, List.setIfInBounds_toArray, List.set_cons_zero, List.set_cons_succ, i64_w, i32_w]
                  rfl
                exact norm_ (by first | (simp only [putAll, Act.put, List.setIfInBounds_toArray, List.set_cons_zero, List.set_cons_succ]; done) | (simp only [putAll, Act.put, List.setIfInBounds_toArray, List.set_cons_zero, List.set_cons_succ]; rfl)) (hJ4_9_10_11 (v212, v218, gb220, gb221) _ ⟨hHeld, (by (with_reducible repeat (first | apply Kd.N_alloc | apply Kd.N_drewN | apply Kd.N_drew)); exact Kd.N_mono HO213.out (fun _ hk => ⟨hk.1.1, ⟨hk.2, ⟨hk.1.2.1, ⟨hk.1.2.2.1, ⟨hk.1.2.2.2.1, hk.1.2.2.2.2⟩⟩⟩⟩⟩)), (aN_ HO219.out), (aG_ BK206.out), (aG_ BK207.out), (aG_ BK220.out), (aG_ BK221.out), GW220.out, GE220.out, NB206_220.out, NB220_206.out, NB207_220.out, NB220_207.out, NB221_220.out, NB220_221.out, GW221.out, GE221.out, NB206_221.out, NB221_206.out, NB207_221.out, NB221_207.out, ab6_⟩)
            · skip
              rintro ⟨v212, v218, gb221⟩ w21 ⟨hS_, h0_, h1_, h2_, h3_, h4_, h5_, h6_, h7_, h8_, h9_, h10_, h11_⟩
              have n0_ : Aside0 (Kd.N k25 25 w21 w.heap.size (fun k_ => (w.heap.size ≤ k_) ∧ some k_ ≠ (v218 : Value).ownBlock ∧ k_ ≠ gb206 ∧ k_ ≠ gb207 ∧ k_ ≠ gb221) v212 t211) := ⟨h0_⟩
              have n1_ : Aside0 (Kd.N k25 25 w21 w.heap.size (fun k_ => (w.heap.size ≤ k_) ∧ some k_ ≠ (v212 : Value).ownBlock ∧ k_ ≠ gb206 ∧ k_ ≠ gb207 ∧ k_ ≠ gb221) v218 t217) := ⟨h1_⟩
              have n2_ : Aside0 (w21.heap[gb206]? = some (.cells #[.int .i64 a0_0, .int .i64 a0_1, .slice (some ad208) l0_2.length c0_2] 25 (0, 0))) := ⟨h2_⟩
              have n3_ : Aside0 (w21.heap[gb207]? = some (.cells #[.int .i64 0, .int .i64 0, .slice none 0 0] 25 (0, 0))) := ⟨h3_⟩
              have n4_ : Aside0 (w21.heap[gb221]? = some (.cells #[.int .i64 0, .int .i64 0, .slice none 0 0] 25 (0, 0))) := ⟨h4_⟩
              have n5_ : Aside0 (w.heap.size ≤ gb221) := ⟨h5_⟩
              have n6_ : Aside0 (w.heap.size ≤ gb221) := ⟨h6_⟩
              have n7_ : Aside0 (gb206 ≠ gb221) := ⟨h7_⟩
              have n8_ : Aside0 (gb221 ≠ gb206) := ⟨h8_⟩
              have n9_ : Aside0 (gb207 ≠ gb221) := ⟨h9_⟩
              have n10_ : Aside0 (gb221 ≠ gb207) := ⟨h10_⟩
              have n11_ : Aside0 (Below w.heap.size w w21) := ⟨h11_⟩
              clear BK206
              clear BK207
              clear HB
              clear h0_ h1_ h2_ h3_ h4_ h5_ h6_ h7_ h8_ h9_ h10_ h11_
              have HO213 := n0_
              have HO219 := n1_
              have BK206 := n2_
              have BK207 := n3_
              have BK221 := n4_
              have GW221 := n5_
              have GE221 := n6_
              have NB206_221 := n7_
              have NB221_206 := n8_
              have NB207_221 := n9_
              have NB221_207 := n10_
              have HB := n11_
              clear n0_ n1_ n2_ n3_ n4_ n5_ n6_ n7_ n8_ n9_ n10_ n11_
              have hHeld : w21.cell? ⟨gb206, 0, none⟩ = some (.int .i64 a0_0) ∧ w21.cell? ⟨gb206, 1, none⟩ = some (.int .i64 a0_1) ∧ w21.cell? ⟨gb206, 2, none⟩ = some (.slice (some ad208) l0_2.length c0_2) ∧ w21.cell? ad208 = some (.int .i64 ((rd_T25 l0_2 0).f0)) ∧ w21.cell? ⟨ad208.block, ad208.off + 1, none⟩ = some (.int .i64 ((rd_T25 l0_2 0).f1)) ∧ w21.cell? ⟨ad208.block, ad208.off + 2, none⟩ = some (.slice A208_2 ((rd_T25 l0_2 0).f2).length c208_2) ∧ w21.cell? ⟨ad208.block, ad208.off + 3, none⟩ = some (.int .i64 ((rd_T25 l0_2 1).f0)) ∧ w21.cell? ⟨ad208.block, ad208.off + 3 + 1, none⟩ = some (.int .i64 ((rd_T25 l0_2 1).f1)) ∧ w21.cell? ⟨ad208.block, ad208.off + 3 + 2, none⟩ = some (.slice A214_2 ((rd_T25 l0_2 1).f2).length c214_2) := hS_
              refine norm_ (a' := ?_) ?_ ?_
              rotate_left
              · simp only [putAll, Act.put, List.setIfInBounds_toArray, List.set_cons_zero, List.set_cons_succ]
                rfl
              refine one_ (i := 10) (N := some 3) #[true, true, true, true, true, true, true, true, true, true, true, true, false, false] rfl rfl (one_of HT_.out (by kernel_rfl)) (by decide) (fun K hK => ?_)
              refine box_step ?hg (N := 3) ?hd (cs := #[.int .i64 0, .int .i64 0, .slice none 0 0]) (t := 25) ?hr ?_; (case hd => rfl); (case hg => rfl); (case hr => first | (go_simp; done) | (go_simp; rfl))
              intro gb220 hg w22 hbox hb
              have n0_ := Aside0.mk (Kd.N_below (Kd.N_elderB (aN_ HO213.out) gb220 (Nat.le_of_eq hg.symm)) hb)
              have n1_ := Aside0.mk (Kd.N_below (Kd.N_elderB (aN_ HO219.out) gb220 (Nat.le_of_eq hg.symm)) hb)
              have n2_ := Aside0.mk (blk_below (g := gb206) (o := .cells #[.int .i64 a0_0, .int .i64 a0_1, .slice (some ad208) l0_2.length c0_2] 25 (0, 0)) (aG_ BK206.out) hb)
              have n3_ := Aside0.mk (blk_below (g := gb207) (o := .cells #[.int .i64 0, .int .i64 0, .slice none 0 0] 25 (0, 0)) (aG_ BK207.out) hb)
              have n4_ := Aside0.mk (blk_below (g := gb221) (o := .cells #[.int .i64 0, .int .i64 0, .slice none 0 0] 25 (0, 0)) (aG_ BK221.out) hb)
              have n5_ := Aside0.mk (below_step ab13_ hb)
              have n6_ := Aside0.mk (hbox)
              have n7_ := Aside0.mk ((by rw [hg]; exact (below_size ab13_) : w.heap.size ≤ gb220))
              have n8_ := Aside0.mk ((by rw [hg]; exact (below_size ab13_) : w.heap.size ≤ gb220))
              have n9_ := Aside0.mk ((by rw [hg]; exact Nat.ne_of_lt (blk_lt (g := gb206) (o := .cells #[.int .i64 a0_0, .int .i64 a0_1, .slice (some ad208) l0_2.length c0_2] 25 (0, 0)) (aG_ BK206.out)) : gb206 ≠ gb220))
              have n10_ := Aside0.mk ((by rw [hg]; exact Nat.ne_of_gt (blk_lt (g := gb206) (o := .cells #[.int .i64 a0_0, .int .i64 a0_1, .slice (some ad208) l0_2.length c0_2] 25 (0, 0)) (aG_ BK206.out)) : gb220 ≠ gb206))
              have n11_ := Aside0.mk ((by rw [hg]; exact Nat.ne_of_lt (blk_lt (g := gb207) (o := .cells #[.int .i64 0, .int .i64 0, .slice none 0 0] 25 (0, 0)) (aG_ BK207.out)) : gb207 ≠ gb220))
              have n12_ := Aside0.mk ((by rw [hg]; exact Nat.ne_of_gt (blk_lt (g := gb207) (o := .cells #[.int .i64 0, .int .i64 0, .slice none 0 0] 25 (0, 0)) (aG_ BK207.out)) : gb220 ≠ gb207))
              have n13_ := Aside0.mk ((by rw [hg]; exact Nat.ne_of_lt (blk_lt (g := gb221) (o := .cells #[.int .i64 0, .int .i64 0, .slice none 0 0] 25 (0, 0)) (aG_ BK221.out)) : gb221 ≠ gb220))
              have n14_ := Aside0.mk ((by rw [hg]; exact Nat.ne_of_gt (blk_lt (g := gb221) (o := .cells #[.int .i64 0, .int .i64 0, .slice none 0 0] 25 (0, 0)) (aG_ BK221.out)) : gb220 ≠ gb221))
              clear HO213
              clear HO219
              clear BK206
              clear BK207
              clear BK221
              clear HB
              have HO213 := n0_
              have HO219 := n1_
              have BK206 := n2_
              have BK207 := n3_
              have BK221 := n4_
              have HB := n5_
              have BK220 := n6_
              have GW220 := n7_
              have GE220 := n8_
              have NB206_220 := n9_
              have NB220_206 := n10_
              have NB207_220 := n11_
              have NB220_207 := n12_
              have NB221_220 := n13_
              have NB220_221 := n14_
              clear n0_ n1_ n2_ n3_ n4_ n5_ n6_ n7_ n8_ n9_ n10_ n11_ n12_ n13_ n14_
              clear hb hbox hg
              refine hK.out _ _ ⟨(blk_cell BK206.out 0).trans rfl, (blk_cell BK206.out 1).trans rfl, (blk_cell BK206.out 2).trans rfl, ((HB.out.cell (World.block_lt_of_cell? w _ hw208_0)).trans hw208_0), ((HB.out.cell (World.block_lt_of_cell? w _ hw208_1)).trans hw208_1), ((HB.out.cell (World.block_lt_of_cell? w _ hw208_2)).trans hw208_2), ((HB.out.cell (World.block_lt_of_cell? w _ hw214_0)).trans hw214_0), ((HB.out.cell (World.block_lt_of_cell? w _ hw214_1)).trans hw214_1), ((HB.out.cell (World.block_lt_of_cell? w _ hw214_2)).trans hw214_2)⟩ (fun hHeld => ?_)
              clear hK K
              refine norm_ (a' := ?_) ?_ ?_
              rotate_left
              · show Act.put _ (some 3) _ = _
                simp only [Act.put, List.setIfInBounds_toArray, List.set_cons_zero, List.set_cons_succ, i64_w, i32_w]
                rfl
              exact norm_ (by first | (simp only [putAll, Act.put, List.setIfInBounds_toArray, List.set_cons_zero, List.set_cons_succ]; done) | (simp only [putAll, Act.put, List.setIfInBounds_toArray, List.set_cons_zero, List.set_cons_succ]; rfl)) (hJ4_9_10_11 (v212, v218, gb220, gb221) _ ⟨hHeld, (by (with_reducible repeat (first | apply Kd.N_alloc | apply Kd.N_drewN | apply Kd.N_drew)); exact Kd.N_mono HO213.out (fun _ hk => ⟨hk.1.1, ⟨hk.1.2.1, ⟨hk.1.2.2.1, ⟨hk.1.2.2.2.1, ⟨hk.2, hk.1.2.2.2.2⟩⟩⟩⟩⟩)), (by (with_reducible repeat (first | apply Kd.N_alloc | apply Kd.N_drewN | apply Kd.N_drew)); exact Kd.N_mono HO219.out (fun _ hk => ⟨hk.1.1, ⟨hk.1.2.1, ⟨hk.1.2.2.1, ⟨hk.1.2.2.2.1, ⟨hk.2, hk.1.2.2.2.2⟩⟩⟩⟩⟩)), (aG_ BK206.out), (aG_ BK207.out), (aG_ BK220.out), (aG_ BK221.out), GW220.out, GE220.out, NB206_220.out, NB220_206.out, NB207_220.out, NB220_207.out, NB221_220.out, NB220_221.out, GW221.out, GE221.out, NB206_221.out, NB221_206.out, NB207_221.out, NB221_207.out, ab58_⟩)
          · skip
            rintro ⟨v212, v218, gb220⟩ w21 ⟨hS_, h0_, h1_, h2_, h3_, h4_, h5_, h6_, h7_, h8_, h9_, h10_, h11_⟩
            have n0_ : Aside0 (Kd.N k25 25 w21 w.heap.size (fun k_ => (w.heap.size ≤ k_) ∧ some k_ ≠ (v218 : Value).ownBlock ∧ k_ ≠ gb206 ∧ k_ ≠ gb207 ∧ k_ ≠ gb220) v212 t211) := ⟨h0_⟩
            have n1_ : Aside0 (Kd.N k25 25 w21 w.heap.size (fun k_ => (w.heap.size ≤ k_) ∧ some k_ ≠ (v212 : Value).ownBlock ∧ k_ ≠ gb206 ∧ k_ ≠ gb207 ∧ k_ ≠ gb220) v218 t217) := ⟨h1_⟩
            have n2_ : Aside0 (w21.heap[gb206]? = some (.cells #[.int .i64 a0_0, .int .i64 a0_1, .slice (some ad208) l0_2.length c0_2] 25 (0, 0))) := ⟨h2_⟩
            have n3_ : Aside0 (w21.heap[gb207]? = some (.cells #[.int .i64 0, .int .i64 0, .slice none 0 0] 25 (0, 0))) := ⟨h3_⟩
            have n4_ : Aside0 (w21.heap[gb220]? = some (.cells #[.int .i64 0, .int .i64 0, .slice none 0 0] 25 (0, 0))) := ⟨h4_⟩
            have n5_ : Aside0 (w.heap.size ≤ gb220) := ⟨h5_⟩
            have n6_ : Aside0 (w.heap.size ≤ gb220) := ⟨h6_⟩
            have n7_ : Aside0 (gb206 ≠ gb220) := ⟨h7_⟩
            have n8_ : Aside0 (gb220 ≠ gb206) := ⟨h8_⟩
            have n9_ : Aside0 (gb207 ≠ gb220) := ⟨h9_⟩
            have n10_ : Aside0 (gb220 ≠ gb207) := ⟨h10_⟩
            have n11_ : Aside0 (Below w.heap.size w w21) := ⟨h11_⟩
            clear BK206
            clear BK207
            clear HB
            clear h0_ h1_ h2_ h3_ h4_ h5_ h6_ h7_ h8_ h9_ h10_ h11_
            have HO213 := n0_
            have HO219 := n1_
            have BK206 := n2_
            have BK207 := n3_
            have BK220 := n4_
            have GW220 := n5_
            have GE220 := n6_
            have NB206_220 := n7_
            have NB220_206 := n8_
            have NB207_220 := n9_
            have NB220_207 := n10_
            have HB := n11_
            clear n0_ n1_ n2_ n3_ n4_ n5_ n6_ n7_ n8_ n9_ n10_ n11_
            have hHeld : w21.cell? ⟨gb206, 0, none⟩ = some (.int .i64 a0_0) ∧ w21.cell? ⟨gb206, 1, none⟩ = some (.int .i64 a0_1) ∧ w21.cell? ⟨gb206, 2, none⟩ = some (.slice (some ad208) l0_2.length c0_2) ∧ w21.cell? ad208 = some (.int .i64 ((rd_T25 l0_2 0).f0)) ∧ w21.cell? ⟨ad208.block, ad208.off + 1, none⟩ = some (.int .i64 ((rd_T25 l0_2 0).f1)) ∧ w21.cell? ⟨ad208.block, ad208.off + 2, none⟩ = some (.slice A208_2 ((rd_T25 l0_2 0).f2).length c208_2) ∧ w21.cell? ⟨ad208.block, ad208.off + 3, none⟩ = some (.int .i64 ((rd_T25 l0_2 1).f0)) ∧ w21.cell? ⟨ad208.block, ad208.off + 3 + 1, none⟩ = some (.int .i64 ((rd_T25 l0_2 1).f1)) ∧ w21.cell? ⟨ad208.block, ad208.off + 3 + 2, none⟩ = some (.slice A214_2 ((rd_T25 l0_2 1).f2).length c214_2) := hS_
            refine norm_ (a' := ?_) ?_ ?_
            rotate_left
            · simp only [putAll, Act.put, List.setIfInBounds_toArray, List.set_cons_zero, List.set_cons_succ]
              rfl
            refine one_ (i := 11) (N := some 4) #[true, true, true, true, true, true, true, true, true, true, true, true, false, false] rfl rfl (one_of HT_.out (by kernel_rfl)) (by decide) (fun K hK => ?_)
            refine box_step ?hg (N := 4) ?hd (cs := #[.int .i64 0, .int .i64 0, .slice none 0 0]) (t := 25) ?hr ?_; (case hd => rfl); (case hg => rfl); (case hr => first | (go_simp; done) | (go_simp; rfl))
            intro gb221 hg w22 hbox hb
            have n0_ := Aside0.mk (Kd.N_below (Kd.N_elderB (aN_ HO213.out) gb221 (Nat.le_of_eq hg.symm)) hb)
            have n1_ := Aside0.mk (Kd.N_below (Kd.N_elderB (aN_ HO219.out) gb221 (Nat.le_of_eq hg.symm)) hb)
            have n2_ := Aside0.mk (blk_below (g := gb206) (o := .cells #[.int .i64 a0_0, .int .i64 a0_1, .slice (some ad208) l0_2.length c0_2] 25 (0, 0)) (aG_ BK206.out) hb)
            have n3_ := Aside0.mk (blk_below (g := gb207) (o := .cells #[.int .i64 0, .int .i64 0, .slice none 0 0] 25 (0, 0)) (aG_ BK207.out) hb)
            have n4_ := Aside0.mk (blk_below (g := gb220) (o := .cells #[.int .i64 0, .int .i64 0, .slice none 0 0] 25 (0, 0)) (aG_ BK220.out) hb)
            have n5_ := Aside0.mk (below_step ab12_ hb)
            have n6_ := Aside0.mk (hbox)
            have n7_ := Aside0.mk ((by rw [hg]; exact (below_size ab12_) : w.heap.size ≤ gb221))
            have n8_ := Aside0.mk ((by rw [hg]; exact (below_size ab12_) : w.heap.size ≤ gb221))
            have n9_ := Aside0.mk ((by rw [hg]; exact Nat.ne_of_lt (blk_lt (g := gb206) (o := .cells #[.int .i64 a0_0, .int .i64 a0_1, .slice (some ad208) l0_2.length c0_2] 25 (0, 0)) (aG_ BK206.out)) : gb206 ≠ gb221))
            have n10_ := Aside0.mk ((by rw [hg]; exact Nat.ne_of_gt (blk_lt (g := gb206) (o := .cells #[.int .i64 a0_0, .int .i64 a0_1, .slice (some ad208) l0_2.length c0_2] 25 (0, 0)) (aG_ BK206.out)) : gb221 ≠ gb206))
            have n11_ := Aside0.mk ((by rw [hg]; exact Nat.ne_of_lt (blk_lt (g := gb207) (o := .cells #[.int .i64 0, .int .i64 0, .slice none 0 0] 25 (0, 0)) (aG_ BK207.out)) : gb207 ≠ gb221))
            have n12_ := Aside0.mk ((by rw [hg]; exact Nat.ne_of_gt (blk_lt (g := gb207) (o := .cells #[.int .i64 0, .int .i64 0, .slice none 0 0] 25 (0, 0)) (aG_ BK207.out)) : gb221 ≠ gb207))
            have n13_ := Aside0.mk ((by rw [hg]; exact Nat.ne_of_lt (blk_lt (g := gb220) (o := .cells #[.int .i64 0, .int .i64 0, .slice none 0 0] 25 (0, 0)) (aG_ BK220.out)) : gb220 ≠ gb221))
            have n14_ := Aside0.mk ((by rw [hg]; exact Nat.ne_of_gt (blk_lt (g := gb220) (o := .cells #[.int .i64 0, .int .i64 0, .slice none 0 0] 25 (0, 0)) (aG_ BK220.out)) : gb221 ≠ gb220))
            clear HO213
            clear HO219
            clear BK206
            clear BK207
            clear BK220
            clear HB
            have HO213 := n0_
            have HO219 := n1_
            have BK206 := n2_
            have BK207 := n3_
            have BK220 := n4_
            have HB := n5_
            have BK221 := n6_
            have GW221 := n7_
            have GE221 := n8_
            have NB206_221 := n9_
            have NB221_206 := n10_
            have NB207_221 := n11_
            have NB221_207 := n12_
            have NB220_221 := n13_
            have NB221_220 := n14_
            clear n0_ n1_ n2_ n3_ n4_ n5_ n6_ n7_ n8_ n9_ n10_ n11_ n12_ n13_ n14_
            clear hb hbox hg
            refine hK.out _ _ ⟨(blk_cell BK206.out 0).trans rfl, (blk_cell BK206.out 1).trans rfl, (blk_cell BK206.out 2).trans rfl, ((HB.out.cell (World.block_lt_of_cell? w _ hw208_0)).trans hw208_0), ((HB.out.cell (World.block_lt_of_cell? w _ hw208_1)).trans hw208_1), ((HB.out.cell (World.block_lt_of_cell? w _ hw208_2)).trans hw208_2), ((HB.out.cell (World.block_lt_of_cell? w _ hw214_0)).trans hw214_0), ((HB.out.cell (World.block_lt_of_cell? w _ hw214_1)).trans hw214_1), ((HB.out.cell (World.block_lt_of_cell? w _ hw214_2)).trans hw214_2)⟩ (fun hHeld => ?_)
            clear hK K
            refine norm_ (a' := ?_) ?_ ?_
            rotate_left
            · show Act.put _ (some 4) _ = _
              simp only [Act.put, List.setIfInBounds_toArray, List.set_cons_zero, List.set_cons_succ, i64_w, i32_w]
              rfl
            exact norm_ (by first | (simp only [putAll, Act.put, List.setIfInBounds_toArray, List.set_cons_zero, List.set_cons_succ]; done) | (simp only [putAll, Act.put, List.setIfInBounds_toArray, List.set_cons_zero, List.set_cons_succ]; rfl)) (hJ4_9_10_11 (v212, v218, gb220, gb221) _ ⟨hHeld, (by (with_reducible repeat (first | apply Kd.N_alloc | apply Kd.N_drewN | apply Kd.N_drew)); exact Kd.N_mono HO213.out (fun _ hk => ⟨hk.1.1, ⟨hk.1.2.1, ⟨hk.1.2.2.1, ⟨hk.1.2.2.2.1, ⟨hk.1.2.2.2.2, hk.2⟩⟩⟩⟩⟩)), (by (with_reducible repeat (first | apply Kd.N_alloc | apply Kd.N_drewN | apply Kd.N_drew)); exact Kd.N_mono HO219.out (fun _ hk => ⟨hk.1.1, ⟨hk.1.2.1, ⟨hk.1.2.2.1, ⟨hk.1.2.2.2.1, ⟨hk.1.2.2.2.2, hk.2⟩⟩⟩⟩⟩)), (aG_ BK206.out), (aG_ BK207.out), (aG_ BK220.out), (aG_ BK221.out), GW220.out, GE220.out, NB206_220.out, NB220_206.out, NB207_220.out, NB220_207.out, NB221_220.out, NB220_221.out, GW221.out, GE221.out, NB206_221.out, NB221_206.out, NB207_221.out, NB221_207.out, ab6_⟩)
        rintro ⟨v212, v218, gb220, gb221⟩ w22 ⟨hS_, h0_, h1_, h2_, h3_, h4_, h5_, h6_, h7_, h8_, h9_, h10_, h11_, h12_, h13_, h14_, h15_, h16_, h17_, h18_, h19_, h20_⟩
        have n0_ : Aside0 (Kd.N k25 25 w22 w.heap.size (fun k_ => (w.heap.size ≤ k_) ∧ some k_ ≠ (v218 : Value).ownBlock ∧ k_ ≠ gb206 ∧ k_ ≠ gb207 ∧ k_ ≠ gb220 ∧ k_ ≠ gb221) v212 t211) := ⟨h0_⟩
        have n1_ : Aside0 (Kd.N k25 25 w22 w.heap.size (fun k_ => (w.heap.size ≤ k_) ∧ some k_ ≠ (v212 : Value).ownBlock ∧ k_ ≠ gb206 ∧ k_ ≠ gb207 ∧ k_ ≠ gb220 ∧ k_ ≠ gb221) v218 t217) := ⟨h1_⟩
        have n2_ : Aside0 (w22.heap[gb206]? = some (.cells #[.int .i64 a0_0, .int .i64 a0_1, .slice (some ad208) l0_2.length c0_2] 25 (0, 0))) := ⟨h2_⟩
        have n3_ : Aside0 (w22.heap[gb207]? = some (.cells #[.int .i64 0, .int .i64 0, .slice none 0 0] 25 (0, 0))) := ⟨h3_⟩
        have n4_ : Aside0 (w22.heap[gb220]? = some (.cells #[.int .i64 0, .int .i64 0, .slice none 0 0] 25 (0, 0))) := ⟨h4_⟩
        have n5_ : Aside0 (w22.heap[gb221]? = some (.cells #[.int .i64 0, .int .i64 0, .slice none 0 0] 25 (0, 0))) := ⟨h5_⟩
        have n6_ : Aside0 (w.heap.size ≤ gb220) := ⟨h6_⟩
        have n7_ : Aside0 (w.heap.size ≤ gb220) := ⟨h7_⟩
        have n8_ : Aside0 (gb206 ≠ gb220) := ⟨h8_⟩
        have n9_ : Aside0 (gb220 ≠ gb206) := ⟨h9_⟩
        have n10_ : Aside0 (gb207 ≠ gb220) := ⟨h10_⟩
        have n11_ : Aside0 (gb220 ≠ gb207) := ⟨h11_⟩
        have n12_ : Aside0 (gb221 ≠ gb220) := ⟨h12_⟩
        have n13_ : Aside0 (gb220 ≠ gb221) := ⟨h13_⟩
        have n14_ : Aside0 (w.heap.size ≤ gb221) := ⟨h14_⟩
        have n15_ : Aside0 (w.heap.size ≤ gb221) := ⟨h15_⟩
        have n16_ : Aside0 (gb206 ≠ gb221) := ⟨h16_⟩
        have n17_ : Aside0 (gb221 ≠ gb206) := ⟨h17_⟩
        have n18_ : Aside0 (gb207 ≠ gb221) := ⟨h18_⟩
        have n19_ : Aside0 (gb221 ≠ gb207) := ⟨h19_⟩
        have n20_ : Aside0 (Below w.heap.size w w22) := ⟨h20_⟩
        clear BK206
        clear BK207
        clear HB
        clear h0_ h1_ h2_ h3_ h4_ h5_ h6_ h7_ h8_ h9_ h10_ h11_ h12_ h13_ h14_ h15_ h16_ h17_ h18_ h19_ h20_
        have HO213 := n0_
        have HO219 := n1_
        have BK206 := n2_
        have BK207 := n3_
        have BK220 := n4_
        have BK221 := n5_
        have GW220 := n6_
        have GE220 := n7_
        have NB206_220 := n8_
        have NB220_206 := n9_
        have NB207_220 := n10_
        have NB220_207 := n11_
        have NB221_220 := n12_
        have NB220_221 := n13_
        have GW221 := n14_
        have GE221 := n15_
        have NB206_221 := n16_
        have NB221_206 := n17_
        have NB207_221 := n18_
        have NB221_207 := n19_
        have HB := n20_
        clear n0_ n1_ n2_ n3_ n4_ n5_ n6_ n7_ n8_ n9_ n10_ n11_ n12_ n13_ n14_ n15_ n16_ n17_ n18_ n19_ n20_
        have hHeld : w22.cell? ⟨gb206, 0, none⟩ = some (.int .i64 a0_0) ∧ w22.cell? ⟨gb206, 1, none⟩ = some (.int .i64 a0_1) ∧ w22.cell? ⟨gb206, 2, none⟩ = some (.slice (some ad208) l0_2.length c0_2) ∧ w22.cell? ad208 = some (.int .i64 ((rd_T25 l0_2 0).f0)) ∧ w22.cell? ⟨ad208.block, ad208.off + 1, none⟩ = some (.int .i64 ((rd_T25 l0_2 0).f1)) ∧ w22.cell? ⟨ad208.block, ad208.off + 2, none⟩ = some (.slice A208_2 ((rd_T25 l0_2 0).f2).length c208_2) ∧ w22.cell? ⟨ad208.block, ad208.off + 3, none⟩ = some (.int .i64 ((rd_T25 l0_2 1).f0)) ∧ w22.cell? ⟨ad208.block, ad208.off + 3 + 1, none⟩ = some (.int .i64 ((rd_T25 l0_2 1).f1)) ∧ w22.cell? ⟨ad208.block, ad208.off + 3 + 2, none⟩ = some (.slice A214_2 ((rd_T25 l0_2 1).f2).length c214_2) := hS_
        obtain ⟨Ao25, co25, eo25⟩ := Kd.N_slice HO213.out
        (first | subst eo25 | (injection eo25 with f1_ f2_ f3_; have f4_ := f1_.symm; have f5_ := f3_.symm; clear f1_ f2_ f3_; subst f4_; subst f5_))
        obtain ⟨Ao29, co29, eo29⟩ := Kd.N_slice HO219.out
        (first | subst eo29 | (injection eo29 with f1_ f2_ f3_; have f4_ := f1_.symm; have f5_ := f3_.symm; clear f1_ f2_ f3_; subst f4_; subst f5_))
        refine norm_ (a' := ?_) ?_ ?_
        rotate_left
        · simp only [putAll, Act.put, List.setIfInBounds_toArray, List.set_cons_zero, List.set_cons_succ]
          rfl
        refine one_ (i := 12) (N := none) #[true, true, true, true, true, true, true, true, true, true, true, true, true, false] rfl rfl (one_of HT_.out (by kernel_rfl)) (by decide) (fun K hK => ?_)
        have hs23 : w22.cell? ⟨gb220, 0, none⟩ = some (.int .i64 0) := (blk_cell BK220.out 0).trans rfl
        have hfs23 := blk_frozen BK220.out 0
        have hns23_0 := NB206_220.out
        have hns23_1 := NB207_220.out
        have hns23_3 := NB221_220.out
        have hms23_0 := NB220_206.out
        have hms23_1 := NB220_207.out
        have hms23_3 := NB220_221.out
        have hs24 : w22.cell? ⟨gb220, 1, none⟩ = some (.int .i64 0) := (blk_cell BK220.out 1).trans rfl
        have hfs24 := blk_frozen BK220.out 1
        have hns24_0 := NB206_220.out
        have hns24_1 := NB207_220.out
        have hns24_3 := NB221_220.out
        have hms24_0 := NB220_206.out
        have hms24_1 := NB220_207.out
        have hms24_3 := NB220_221.out
        have hs26 : w22.cell? ⟨gb220, 2, none⟩ = some (.slice none 0 0) := (blk_cell BK220.out 2).trans rfl
        have hfs26 := blk_frozen BK220.out 2
        have hns26_0 := NB206_220.out
        have hns26_1 := NB207_220.out
        have hns26_3 := NB221_220.out
        have hms26_0 := NB220_206.out
        have hms26_1 := NB220_207.out
        have hms26_3 := NB220_221.out
        refine skip_ (w1 := ?_) (by rfl) rfl ?_ ?_
        rotate_left
        · go_simp
          rfl
        refine hK.out _ _ ⟨((cell_far (p := ⟨gb220, _, none⟩) NB206_220.out _).trans (((cell_far (p := ⟨gb220, _, none⟩) NB206_220.out _).trans (((cell_far (p := ⟨gb220, _, none⟩) NB206_220.out _).trans (hHeld.1)))))), ((cell_far (p := ⟨gb220, _, none⟩) NB206_220.out _).trans (((cell_far (p := ⟨gb220, _, none⟩) NB206_220.out _).trans (((cell_far (p := ⟨gb220, _, none⟩) NB206_220.out _).trans (hHeld.2.1)))))), ((cell_far (p := ⟨gb220, _, none⟩) NB206_220.out _).trans (((cell_far (p := ⟨gb220, _, none⟩) NB206_220.out _).trans (((cell_far (p := ⟨gb220, _, none⟩) NB206_220.out _).trans (hHeld.2.2.1)))))), ((cell_far (p := ⟨gb220, _, none⟩) (by first | exact Nat.ne_of_lt (Nat.lt_of_lt_of_le (by have := World.block_lt_of_cell? _ _ hw208_0; first | rwa [add_block] at this | exact this) GW220.out) | (rw [add_block]; exact Nat.ne_of_lt (Nat.lt_of_lt_of_le (by have := World.block_lt_of_cell? _ _ hw208_0; first | rwa [add_block] at this | exact this) GW220.out)) | (show (Addr.add _ _).block ≠ _; rw [add_block]; exact Nat.ne_of_lt (Nat.lt_of_lt_of_le (by have := World.block_lt_of_cell? _ _ hw208_0; first | rwa [add_block] at this | exact this) GW220.out)) | (dsimp only; exact Nat.ne_of_lt (Nat.lt_of_lt_of_le (by have := World.block_lt_of_cell? _ _ hw208_0; first | rwa [add_block] at this | exact this) GW220.out))) _).trans (((cell_far (p := ⟨gb220, _, none⟩) (by first | exact Nat.ne_of_lt (Nat.lt_of_lt_of_le (by have := World.block_lt_of_cell? _ _ hw208_0; first | rwa [add_block] at this | exact this) GW220.out) | (rw [add_block]; exact Nat.ne_of_lt (Nat.lt_of_lt_of_le (by have := World.block_lt_of_cell? _ _ hw208_0; first | rwa [add_block] at this | exact this) GW220.out)) | (show (Addr.add _ _).block ≠ _; rw [add_block]; exact Nat.ne_of_lt (Nat.lt_of_lt_of_le (by have := World.block_lt_of_cell? _ _ hw208_0; first | rwa [add_block] at this | exact this) GW220.out)) | (dsimp only; exact Nat.ne_of_lt (Nat.lt_of_lt_of_le (by have := World.block_lt_of_cell? _ _ hw208_0; first | rwa [add_block] at this | exact this) GW220.out))) _).trans (((cell_far (p := ⟨gb220, _, none⟩) (by first | exact Nat.ne_of_lt (Nat.lt_of_lt_of_le (by have := World.block_lt_of_cell? _ _ hw208_0; first | rwa [add_block] at this | exact this) GW220.out) | (rw [add_block]; exact Nat.ne_of_lt (Nat.lt_of_lt_of_le (by have := World.block_lt_of_cell? _ _ hw208_0; first | rwa [add_block] at this | exact this) GW220.out)) | (show (Addr.add _ _).block ≠ _; rw [add_block]; exact Nat.ne_of_lt (Nat.lt_of_lt_of_le (by have := World.block_lt_of_cell? _ _ hw208_0; first | rwa [add_block] at this | exact this) GW220.out)) | (dsimp only; exact Nat.ne_of_lt (Nat.lt_of_lt_of_le (by have := World.block_lt_of_cell? _ _ hw208_0; first | rwa [add_block] at this | exact this) GW220.out))) _).trans (hHeld.2.2.2.1)))))), ((cell_far (p := ⟨gb220, _, none⟩) (by first | exact Nat.ne_of_lt (Nat.lt_of_lt_of_le (by have := World.block_lt_of_cell? _ _ hw208_1; first | rwa [add_block] at this | exact this) GW220.out) | (rw [add_block]; exact Nat.ne_of_lt (Nat.lt_of_lt_of_le (by have := World.block_lt_of_cell? _ _ hw208_1; first | rwa [add_block] at this | exact this) GW220.out)) | (show (Addr.add _ _).block ≠ _; rw [add_block]; exact Nat.ne_of_lt (Nat.lt_of_lt_of_le (by have := World.block_lt_of_cell? _ _ hw208_1; first | rwa [add_block] at this | exact this) GW220.out)) | (dsimp only; exact Nat.ne_of_lt (Nat.lt_of_lt_of_le (by have := World.block_lt_of_cell? _ _ hw208_1; first | rwa [add_block] at this | exact this) GW220.out))) _).trans (((cell_far (p := ⟨gb220, _, none⟩) (by first | exact Nat.ne_of_lt (Nat.lt_of_lt_of_le (by have := World.block_lt_of_cell? _ _ hw208_1; first | rwa [add_block] at this | exact this) GW220.out) | (rw [add_block]; exact Nat.ne_of_lt (Nat.lt_of_lt_of_le (by have := World.block_lt_of_cell? _ _ hw208_1; first | rwa [add_block] at this | exact this) GW220.out)) | (show (Addr.add _ _).block ≠ _; rw [add_block]; exact Nat.ne_of_lt (Nat.lt_of_lt_of_le (by have := World.block_lt_of_cell? _ _ hw208_1; first | rwa [add_block] at this | exact this) GW220.out)) | (dsimp only; exact Nat.ne_of_lt (Nat.lt_of_lt_of_le (by have := World.block_lt_of_cell? _ _ hw208_1; first | rwa [add_block] at this | exact this) GW220.out))) _).trans (((cell_far (p := ⟨gb220, _, none⟩) (by first | exact Nat.ne_of_lt (Nat.lt_of_lt_of_le (by have := World.block_lt_of_cell? _ _ hw208_1; first | rwa [add_block] at this | exact this) GW220.out) | (rw [add_block]; exact Nat.ne_of_lt (Nat.lt_of_lt_of_le (by have := World.block_lt_of_cell? _ _ hw208_1; first | rwa [add_block] at this | exact this) GW220.out)) | (show (Addr.add _ _).block ≠ _; rw [add_block]; exact Nat.ne_of_lt (Nat.lt_of_lt_of_le (by have := World.block_lt_of_cell? _ _ hw208_1; first | rwa [add_block] at this | exact this) GW220.out)) | (dsimp only; exact Nat.ne_of_lt (Nat.lt_of_lt_of_le (by have := World.block_lt_of_cell? _ _ hw208_1; first | rwa [add_block] at this | exact this) GW220.out))) _).trans (hHeld.2.2.2.2.1)))))), ((cell_far (p := ⟨gb220, _, none⟩) (by first | exact Nat.ne_of_lt (Nat.lt_of_lt_of_le (by have := World.block_lt_of_cell? _ _ hw208_2; first | rwa [add_block] at this | exact this) GW220.out) | (rw [add_block]; exact Nat.ne_of_lt (Nat.lt_of_lt_of_le (by have := World.block_lt_of_cell? _ _ hw208_2; first | rwa [add_block] at this | exact this) GW220.out)) | (show (Addr.add _ _).block ≠ _; rw [add_block]; exact Nat.ne_of_lt (Nat.lt_of_lt_of_le (by have := World.block_lt_of_cell? _ _ hw208_2; first | rwa [add_block] at this | exact this) GW220.out)) | (dsimp only; exact Nat.ne_of_lt (Nat.lt_of_lt_of_le (by have := World.block_lt_of_cell? _ _ hw208_2; first | rwa [add_block] at this | exact this) GW220.out))) _).trans (((cell_far (p := ⟨gb220, _, none⟩) (by first | exact Nat.ne_of_lt (Nat.lt_of_lt_of_le (by have := World.block_lt_of_cell? _ _ hw208_2; first | rwa [add_block] at this | exact this) GW220.out) | (rw [add_block]; exact Nat.ne_of_lt (Nat.lt_of_lt_of_le (by have := World.block_lt_of_cell? _ _ hw208_2; first | rwa [add_block] at this | exact this) GW220.out)) | (show (Addr.add _ _).block ≠ _; rw [add_block]; exact Nat.ne_of_lt (Nat.lt_of_lt_of_le (by have := World.block_lt_of_cell? _ _ hw208_2; first | rwa [add_block] at this | exact this) GW220.out)) | (dsimp only; exact Nat.ne_of_lt (Nat.lt_of_lt_of_le (by have := World.block_lt_of_cell? _ _ hw208_2; first | rwa [add_block] at this | exact this) GW220.out))) _).trans (((cell_far (p := ⟨gb220, _, none⟩) (by first | exact Nat.ne_of_lt (Nat.lt_of_lt_of_le (by have := World.block_lt_of_cell? _ _ hw208_2; first | rwa [add_block] at this | exact this) GW220.out) | (rw [add_block]; exact Nat.ne_of_lt (Nat.lt_of_lt_of_le (by have := World.block_lt_of_cell? _ _ hw208_2; first | rwa [add_block] at this | exact this) GW220.out)) | (show (Addr.add _ _).block ≠ _; rw [add_block]; exact Nat.ne_of_lt (Nat.lt_of_lt_of_le (by have := World.block_lt_of_cell? _ _ hw208_2; first | rwa [add_block] at this | exact this) GW220.out)) | (dsimp only; exact Nat.ne_of_lt (Nat.lt_of_lt_of_le (by have := World.block_lt_of_cell? _ _ hw208_2; first | rwa [add_block] at this | exact this) GW220.out))) _).trans (hHeld.2.2.2.2.2.1)))))), ((cell_far (p := ⟨gb220, _, none⟩) (by first | exact Nat.ne_of_lt (Nat.lt_of_lt_of_le (by have := World.block_lt_of_cell? _ _ hw214_0; first | rwa [add_block] at this | exact this) GW220.out) | (rw [add_block]; exact Nat.ne_of_lt (Nat.lt_of_lt_of_le (by have := World.block_lt_of_cell? _ _ hw214_0; first | rwa [add_block] at this | exact this) GW220.out)) | (show (Addr.add _ _).block ≠ _; rw [add_block]; exact Nat.ne_of_lt (Nat.lt_of_lt_of_le (by have := World.block_lt_of_cell? _ _ hw214_0; first | rwa [add_block] at this | exact this) GW220.out)) | (dsimp only; exact Nat.ne_of_lt (Nat.lt_of_lt_of_le (by have := World.block_lt_of_cell? _ _ hw214_0; first | rwa [add_block] at this | exact this) GW220.out))) _).trans (((cell_far (p := ⟨gb220, _, none⟩) (by first | exact Nat.ne_of_lt (Nat.lt_of_lt_of_le (by have := World.block_lt_of_cell? _ _ hw214_0; first | rwa [add_block] at this | exact this) GW220.out) | (rw [add_block]; exact Nat.ne_of_lt (Nat.lt_of_lt_of_le (by have := World.block_lt_of_cell? _ _ hw214_0; first | rwa [add_block] at this | exact this) GW220.out)) | (show (Addr.add _ _).block ≠ _; rw [add_block]; exact Nat.ne_of_lt (Nat.lt_of_lt_of_le (by have := World.block_lt_of_cell? _ _ hw214_0; first | rwa [add_block] at this | exact this) GW220.out)) | (dsimp only; exact Nat.ne_of_lt (Nat.lt_of_lt_of_le (by have := World.block_lt_of_cell? _ _ hw214_0; first | rwa [add_block] at this | exact this) GW220.out))) _).trans (((cell_far (p := ⟨gb220, _, none⟩) (by first | exact Nat.ne_of_lt (Nat.lt_of_lt_of_le (by have := World.block_lt_of_cell? _ _ hw214_0; first | rwa [add_block] at this | exact this) GW220.out) | (rw [add_block]; exact Nat.ne_of_lt (Nat.lt_of_lt_of_le (by have := World.block_lt_of_cell? _ _ hw214_0; first | rwa [add_block] at this | exact this) GW220.out)) | (show (Addr.add _ _).block ≠ _; rw [add_block]; exact Nat.ne_of_lt (Nat.lt_of_lt_of_le (by have := World.block_lt_of_cell? _ _ hw214_0; first | rwa [add_block] at this | exact this) GW220.out)) | (dsimp only; exact Nat.ne_of_lt (Nat.lt_of_lt_of_le (by have := World.block_lt_of_cell? _ _ hw214_0; first | rwa [add_block] at this | exact this) GW220.out))) _).trans (hHeld.2.2.2.2.2.2.1)))))), ((cell_far (p := ⟨gb220, _, none⟩) (by first | exact Nat.ne_of_lt (Nat.lt_of_lt_of_le (by have := World.block_lt_of_cell? _ _ hw214_1; first | rwa [add_block] at this | exact this) GW220.out) | (rw [add_block]; exact Nat.ne_of_lt (Nat.lt_of_lt_of_le (by have := World.block_lt_of_cell? _ _ hw214_1; first | rwa [add_block] at this | exact this) GW220.out)) | (show (Addr.add _ _).block ≠ _; rw [add_block]; exact Nat.ne_of_lt (Nat.lt_of_lt_of_le (by have := World.block_lt_of_cell? _ _ hw214_1; first | rwa [add_block] at this | exact this) GW220.out)) | (dsimp only; exact Nat.ne_of_lt (Nat.lt_of_lt_of_le (by have := World.block_lt_of_cell? _ _ hw214_1; first | rwa [add_block] at this | exact this) GW220.out))) _).trans (((cell_far (p := ⟨gb220, _, none⟩) (by first | exact Nat.ne_of_lt (Nat.lt_of_lt_of_le (by have := World.block_lt_of_cell? _ _ hw214_1; first | rwa [add_block] at this | exact this) GW220.out) | (rw [add_block]; exact Nat.ne_of_lt (Nat.lt_of_lt_of_le (by have := World.block_lt_of_cell? _ _ hw214_1; first | rwa [add_block] at this | exact this) GW220.out)) | (show (Addr.add _ _).block ≠ _; rw [add_block]; exact Nat.ne_of_lt (Nat.lt_of_lt_of_le (by have := World.block_lt_of_cell? _ _ hw214_1; first | rwa [add_block] at this | exact this) GW220.out)) | (dsimp only; exact Nat.ne_of_lt (Nat.lt_of_lt_of_le (by have := World.block_lt_of_cell? _ _ hw214_1; first | rwa [add_block] at this | exact this) GW220.out))) _).trans (((cell_far (p := ⟨gb220, _, none⟩) (by first | exact Nat.ne_of_lt (Nat.lt_of_lt_of_le (by have := World.block_lt_of_cell? _ _ hw214_1; first | rwa [add_block] at this | exact this) GW220.out) | (rw [add_block]; exact Nat.ne_of_lt (Nat.lt_of_lt_of_le (by have := World.block_lt_of_cell? _ _ hw214_1; first | rwa [add_block] at this | exact this) GW220.out)) | (show (Addr.add _ _).block ≠ _; rw [add_block]; exact Nat.ne_of_lt (Nat.lt_of_lt_of_le (by have := World.block_lt_of_cell? _ _ hw214_1; first | rwa [add_block] at this | exact this) GW220.out)) | (dsimp only; exact Nat.ne_of_lt (Nat.lt_of_lt_of_le (by have := World.block_lt_of_cell? _ _ hw214_1; first | rwa [add_block] at this | exact this) GW220.out))) _).trans (hHeld.2.2.2.2.2.2.2.1)))))), ((cell_far (p := ⟨gb220, _, none⟩) (by first | exact Nat.ne_of_lt (Nat.lt_of_lt_of_le (by have := World.block_lt_of_cell? _ _ hw214_2; first | rwa [add_block] at this | exact this) GW220.out) | (rw [add_block]; exact Nat.ne_of_lt (Nat.lt_of_lt_of_le (by have := World.block_lt_of_cell? _ _ hw214_2; first | rwa [add_block] at this | exact this) GW220.out)) | (show (Addr.add _ _).block ≠ _; rw [add_block]; exact Nat.ne_of_lt (Nat.lt_of_lt_of_le (by have := World.block_lt_of_cell? _ _ hw214_2; first | rwa [add_block] at this | exact this) GW220.out)) | (dsimp only; exact Nat.ne_of_lt (Nat.lt_of_lt_of_le (by have := World.block_lt_of_cell? _ _ hw214_2; first | rwa [add_block] at this | exact this) GW220.out))) _).trans (((cell_far (p := ⟨gb220, _, none⟩) (by first | exact Nat.ne_of_lt (Nat.lt_of_lt_of_le (by have := World.block_lt_of_cell? _ _ hw214_2; first | rwa [add_block] at this | exact this) GW220.out) | (rw [add_block]; exact Nat.ne_of_lt (Nat.lt_of_lt_of_le (by have := World.block_lt_of_cell? _ _ hw214_2; first | rwa [add_block] at this | exact this) GW220.out)) | (show (Addr.add _ _).block ≠ _; rw [add_block]; exact Nat.ne_of_lt (Nat.lt_of_lt_of_le (by have := World.block_lt_of_cell? _ _ hw214_2; first | rwa [add_block] at this | exact this) GW220.out)) | (dsimp only; exact Nat.ne_of_lt (Nat.lt_of_lt_of_le (by have := World.block_lt_of_cell? _ _ hw214_2; first | rwa [add_block] at this | exact this) GW220.out))) _).trans (((cell_far (p := ⟨gb220, _, none⟩) (by first | exact Nat.ne_of_lt (Nat.lt_of_lt_of_le (by have := World.block_lt_of_cell? _ _ hw214_2; first | rwa [add_block] at this | exact this) GW220.out) | (rw [add_block]; exact Nat.ne_of_lt (Nat.lt_of_lt_of_le (by have := World.block_lt_of_cell? _ _ hw214_2; first | rwa [add_block] at this | exact this) GW220.out)) | (show (Addr.add _ _).block ≠ _; rw [add_block]; exact Nat.ne_of_lt (Nat.lt_of_lt_of_le (by have := World.block_lt_of_cell? _ _ hw214_2; first | rwa [add_block] at this | exact this) GW220.out)) | (dsimp only; exact Nat.ne_of_lt (Nat.lt_of_lt_of_le (by have := World.block_lt_of_cell? _ _ hw214_2; first | rwa [add_block] at this | exact this) GW220.out))) _).trans (hHeld.2.2.2.2.2.2.2.2))))))⟩ (fun hHeld => ?_)
        clear hK K
        refine one_ (i := 13) (N := none) #[true, true, true, true, true, true, true, true, true, true, true, true, true, true] rfl rfl (one_of HT_.out (by kernel_rfl)) (by decide) (fun K hK => ?_)
        have hs27 : w22.cell? ⟨gb221, 0, none⟩ = some (.int .i64 0) := (blk_cell BK221.out 0).trans rfl
        have hfs27 := blk_frozen BK221.out 0
        have hns27_0 := NB206_221.out
        have hns27_1 := NB207_221.out
        have hns27_2 := NB220_221.out
        have hms27_0 := NB221_206.out
        have hms27_1 := NB221_207.out
        have hms27_2 := NB221_220.out
        have hs28 : w22.cell? ⟨gb221, 1, none⟩ = some (.int .i64 0) := (blk_cell BK221.out 1).trans rfl
        have hfs28 := blk_frozen BK221.out 1
        have hns28_0 := NB206_221.out
        have hns28_1 := NB207_221.out
        have hns28_2 := NB220_221.out
        have hms28_0 := NB221_206.out
        have hms28_1 := NB221_207.out
        have hms28_2 := NB221_220.out
        have hs30 : w22.cell? ⟨gb221, 2, none⟩ = some (.slice none 0 0) := (blk_cell BK221.out 2).trans rfl
        have hfs30 := blk_frozen BK221.out 2
        have hns30_0 := NB206_221.out
        have hns30_1 := NB207_221.out
        have hns30_2 := NB220_221.out
        have hms30_0 := NB221_206.out
        have hms30_1 := NB221_207.out
        have hms30_2 := NB221_220.out
        refine skip_ (w1 := ?_) (by rfl) rfl ?_ ?_
        rotate_left
        · go_simp
          rfl
        refine hK.out _ _ ⟨((cell_far (p := ⟨gb221, _, none⟩) NB206_221.out _).trans (((cell_far (p := ⟨gb221, _, none⟩) NB206_221.out _).trans (((cell_far (p := ⟨gb221, _, none⟩) NB206_221.out _).trans (hHeld.1)))))), ((cell_far (p := ⟨gb221, _, none⟩) NB206_221.out _).trans (((cell_far (p := ⟨gb221, _, none⟩) NB206_221.out _).trans (((cell_far (p := ⟨gb221, _, none⟩) NB206_221.out _).trans (hHeld.2.1)))))), ((cell_far (p := ⟨gb221, _, none⟩) NB206_221.out _).trans (((cell_far (p := ⟨gb221, _, none⟩) NB206_221.out _).trans (((cell_far (p := ⟨gb221, _, none⟩) NB206_221.out _).trans (hHeld.2.2.1)))))), ((cell_far (p := ⟨gb221, _, none⟩) (by first | exact Nat.ne_of_lt (Nat.lt_of_lt_of_le (by have := World.block_lt_of_cell? _ _ hw208_0; first | rwa [add_block] at this | exact this) GW221.out) | (rw [add_block]; exact Nat.ne_of_lt (Nat.lt_of_lt_of_le (by have := World.block_lt_of_cell? _ _ hw208_0; first | rwa [add_block] at this | exact this) GW221.out)) | (show (Addr.add _ _).block ≠ _; rw [add_block]; exact Nat.ne_of_lt (Nat.lt_of_lt_of_le (by have := World.block_lt_of_cell? _ _ hw208_0; first | rwa [add_block] at this | exact this) GW221.out)) | (dsimp only; exact Nat.ne_of_lt (Nat.lt_of_lt_of_le (by have := World.block_lt_of_cell? _ _ hw208_0; first | rwa [add_block] at this | exact this) GW221.out))) _).trans (((cell_far (p := ⟨gb221, _, none⟩) (by first | exact Nat.ne_of_lt (Nat.lt_of_lt_of_le (by have := World.block_lt_of_cell? _ _ hw208_0; first | rwa [add_block] at this | exact this) GW221.out) | (rw [add_block]; exact Nat.ne_of_lt (Nat.lt_of_lt_of_le (by have := World.block_lt_of_cell? _ _ hw208_0; first | rwa [add_block] at this | exact this) GW221.out)) | (show (Addr.add _ _).block ≠ _; rw [add_block]; exact Nat.ne_of_lt (Nat.lt_of_lt_of_le (by have := World.block_lt_of_cell? _ _ hw208_0; first | rwa [add_block] at this | exact this) GW221.out)) | (dsimp only; exact Nat.ne_of_lt (Nat.lt_of_lt_of_le (by have := World.block_lt_of_cell? _ _ hw208_0; first | rwa [add_block] at this | exact this) GW221.out))) _).trans (((cell_far (p := ⟨gb221, _, none⟩) (by first | exact Nat.ne_of_lt (Nat.lt_of_lt_of_le (by have := World.block_lt_of_cell? _ _ hw208_0; first | rwa [add_block] at this | exact this) GW221.out) | (rw [add_block]; exact Nat.ne_of_lt (Nat.lt_of_lt_of_le (by have := World.block_lt_of_cell? _ _ hw208_0; first | rwa [add_block] at this | exact this) GW221.out)) | (show (Addr.add _ _).block ≠ _; rw [add_block]; exact Nat.ne_of_lt (Nat.lt_of_lt_of_le (by have := World.block_lt_of_cell? _ _ hw208_0; first | rwa [add_block] at this | exact this) GW221.out)) | (dsimp only; exact Nat.ne_of_lt (Nat.lt_of_lt_of_le (by have := World.block_lt_of_cell? _ _ hw208_0; first | rwa [add_block] at this | exact this) GW221.out))) _).trans (hHeld.2.2.2.1)))))), ((cell_far (p := ⟨gb221, _, none⟩) (by first | exact Nat.ne_of_lt (Nat.lt_of_lt_of_le (by have := World.block_lt_of_cell? _ _ hw208_1; first | rwa [add_block] at this | exact this) GW221.out) | (rw [add_block]; exact Nat.ne_of_lt (Nat.lt_of_lt_of_le (by have := World.block_lt_of_cell? _ _ hw208_1; first | rwa [add_block] at this | exact this) GW221.out)) | (show (Addr.add _ _).block ≠ _; rw [add_block]; exact Nat.ne_of_lt (Nat.lt_of_lt_of_le (by have := World.block_lt_of_cell? _ _ hw208_1; first | rwa [add_block] at this | exact this) GW221.out)) | (dsimp only; exact Nat.ne_of_lt (Nat.lt_of_lt_of_le (by have := World.block_lt_of_cell? _ _ hw208_1; first | rwa [add_block] at this | exact this) GW221.out))) _).trans (((cell_far (p := ⟨gb221, _, none⟩) (by first | exact Nat.ne_of_lt (Nat.lt_of_lt_of_le (by have := World.block_lt_of_cell? _ _ hw208_1; first | rwa [add_block] at this | exact this) GW221.out) | (rw [add_block]; exact Nat.ne_of_lt (Nat.lt_of_lt_of_le (by have := World.block_lt_of_cell? _ _ hw208_1; first | rwa [add_block] at this | exact this) GW221.out)) | (show (Addr.add _ _).block ≠ _; rw [add_block]; exact Nat.ne_of_lt (Nat.lt_of_lt_of_le (by have := World.block_lt_of_cell? _ _ hw208_1; first | rwa [add_block] at this | exact this) GW221.out)) | (dsimp only; exact Nat.ne_of_lt (Nat.lt_of_lt_of_le (by have := World.block_lt_of_cell? _ _ hw208_1; first | rwa [add_block] at this | exact this) GW221.out))) _).trans (((cell_far (p := ⟨gb221, _, none⟩) (by first | exact Nat.ne_of_lt (Nat.lt_of_lt_of_le (by have := World.block_lt_of_cell? _ _ hw208_1; first | rwa [add_block] at this | exact this) GW221.out) | (rw [add_block]; exact Nat.ne_of_lt (Nat.lt_of_lt_of_le (by have := World.block_lt_of_cell? _ _ hw208_1; first | rwa [add_block] at this | exact this) GW221.out)) | (show (Addr.add _ _).block ≠ _; rw [add_block]; exact Nat.ne_of_lt (Nat.lt_of_lt_of_le (by have := World.block_lt_of_cell? _ _ hw208_1; first | rwa [add_block] at this | exact this) GW221.out)) | (dsimp only; exact Nat.ne_of_lt (Nat.lt_of_lt_of_le (by have := World.block_lt_of_cell? _ _ hw208_1; first | rwa [add_block] at this | exact this) GW221.out))) _).trans (hHeld.2.2.2.2.1)))))), ((cell_far (p := ⟨gb221, _, none⟩) (by first | exact Nat.ne_of_lt (Nat.lt_of_lt_of_le (by have := World.block_lt_of_cell? _ _ hw208_2; first | rwa [add_block] at this | exact this) GW221.out) | (rw [add_block]; exact Nat.ne_of_lt (Nat.lt_of_lt_of_le (by have := World.block_lt_of_cell? _ _ hw208_2; first | rwa [add_block] at this | exact this) GW221.out)) | (show (Addr.add _ _).block ≠ _; rw [add_block]; exact Nat.ne_of_lt (Nat.lt_of_lt_of_le (by have := World.block_lt_of_cell? _ _ hw208_2; first | rwa [add_block] at this | exact this) GW221.out)) | (dsimp only; exact Nat.ne_of_lt (Nat.lt_of_lt_of_le (by have := World.block_lt_of_cell? _ _ hw208_2; first | rwa [add_block] at this | exact this) GW221.out))) _).trans (((cell_far (p := ⟨gb221, _, none⟩) (by first | exact Nat.ne_of_lt (Nat.lt_of_lt_of_le (by have := World.block_lt_of_cell? _ _ hw208_2; first | rwa [add_block] at this | exact this) GW221.out) | (rw [add_block]; exact Nat.ne_of_lt (Nat.lt_of_lt_of_le (by have := World.block_lt_of_cell? _ _ hw208_2; first | rwa [add_block] at this | exact this) GW221.out)) | (show (Addr.add _ _).block ≠ _; rw [add_block]; exact Nat.ne_of_lt (Nat.lt_of_lt_of_le (by have := World.block_lt_of_cell? _ _ hw208_2; first | rwa [add_block] at this | exact this) GW221.out)) | (dsimp only; exact Nat.ne_of_lt (Nat.lt_of_lt_of_le (by have := World.block_lt_of_cell? _ _ hw208_2; first | rwa [add_block] at this | exact this) GW221.out))) _).trans (((cell_far (p := ⟨gb221, _, none⟩) (by first | exact Nat.ne_of_lt (Nat.lt_of_lt_of_le (by have := World.block_lt_of_cell? _ _ hw208_2; first | rwa [add_block] at this | exact this) GW221.out) | (rw [add_block]; exact Nat.ne_of_lt (Nat.lt_of_lt_of_le (by have := World.block_lt_of_cell? _ _ hw208_2; first | rwa [add_block] at this | exact this) GW221.out)) | (show (Addr.add _ _).block ≠ _; rw [add_block]; exact Nat.ne_of_lt (Nat.lt_of_lt_of_le (by have := World.block_lt_of_cell? _ _ hw208_2; first | rwa [add_block] at this | exact this) GW221.out)) | (dsimp only; exact Nat.ne_of_lt (Nat.lt_of_lt_of_le (by have := World.block_lt_of_cell? _ _ hw208_2; first | rwa [add_block] at this | exact this) GW221.out))) _).trans (hHeld.2.2.2.2.2.1)))))), ((cell_far (p := ⟨gb221, _, none⟩) (by first | exact Nat.ne_of_lt (Nat.lt_of_lt_of_le (by have := World.block_lt_of_cell? _ _ hw214_0; first | rwa [add_block] at this | exact this) GW221.out) | (rw [add_block]; exact Nat.ne_of_lt (Nat.lt_of_lt_of_le (by have := World.block_lt_of_cell? _ _ hw214_0; first | rwa [add_block] at this | exact this) GW221.out)) | (show (Addr.add _ _).block ≠ _; rw [add_block]; exact Nat.ne_of_lt (Nat.lt_of_lt_of_le (by have := World.block_lt_of_cell? _ _ hw214_0; first | rwa [add_block] at this | exact this) GW221.out)) | (dsimp only; exact Nat.ne_of_lt (Nat.lt_of_lt_of_le (by have := World.block_lt_of_cell? _ _ hw214_0; first | rwa [add_block] at this | exact this) GW221.out))) _).trans (((cell_far (p := ⟨gb221, _, none⟩) (by first | exact Nat.ne_of_lt (Nat.lt_of_lt_of_le (by have := World.block_lt_of_cell? _ _ hw214_0; first | rwa [add_block] at this | exact this) GW221.out) | (rw [add_block]; exact Nat.ne_of_lt (Nat.lt_of_lt_of_le (by have := World.block_lt_of_cell? _ _ hw214_0; first | rwa [add_block] at this | exact this) GW221.out)) | (show (Addr.add _ _).block ≠ _; rw [add_block]; exact Nat.ne_of_lt (Nat.lt_of_lt_of_le (by have := World.block_lt_of_cell? _ _ hw214_0; first | rwa [add_block] at this | exact this) GW221.out)) | (dsimp only; exact Nat.ne_of_lt (Nat.lt_of_lt_of_le (by have := World.block_lt_of_cell? _ _ hw214_0; first | rwa [add_block] at this | exact this) GW221.out))) _).trans (((cell_far (p := ⟨gb221, _, none⟩) (by first | exact Nat.ne_of_lt (Nat.lt_of_lt_of_le (by have := World.block_lt_of_cell? _ _ hw214_0; first | rwa [add_block] at this | exact this) GW221.out) | (rw [add_block]; exact Nat.ne_of_lt (Nat.lt_of_lt_of_le (by have := World.block_lt_of_cell? _ _ hw214_0; first | rwa [add_block] at this | exact this) GW221.out)) | (show (Addr.add _ _).block ≠ _; rw [add_block]; exact Nat.ne_of_lt (Nat.lt_of_lt_of_le (by have := World.block_lt_of_cell? _ _ hw214_0; first | rwa [add_block] at this | exact this) GW221.out)) | (dsimp only; exact Nat.ne_of_lt (Nat.lt_of_lt_of_le (by have := World.block_lt_of_cell? _ _ hw214_0; first | rwa [add_block] at this | exact this) GW221.out))) _).trans (hHeld.2.2.2.2.2.2.1)))))), ((cell_far (p := ⟨gb221, _, none⟩) (by first | exact Nat.ne_of_lt (Nat.lt_of_lt_of_le (by have := World.block_lt_of_cell? _ _ hw214_1; first | rwa [add_block] at this | exact this) GW221.out) | (rw [add_block]; exact Nat.ne_of_lt (Nat.lt_of_lt_of_le (by have := World.block_lt_of_cell? _ _ hw214_1; first | rwa [add_block] at this | exact this) GW221.out)) | (show (Addr.add _ _).block ≠ _; rw [add_block]; exact Nat.ne_of_lt (Nat.lt_of_lt_of_le (by have := World.block_lt_of_cell? _ _ hw214_1; first | rwa [add_block] at this | exact this) GW221.out)) | (dsimp only; exact Nat.ne_of_lt (Nat.lt_of_lt_of_le (by have := World.block_lt_of_cell? _ _ hw214_1; first | rwa [add_block] at this | exact this) GW221.out))) _).trans (((cell_far (p := ⟨gb221, _, none⟩) (by first | exact Nat.ne_of_lt (Nat.lt_of_lt_of_le (by have := World.block_lt_of_cell? _ _ hw214_1; first | rwa [add_block] at this | exact this) GW221.out) | (rw [add_block]; exact Nat.ne_of_lt (Nat.lt_of_lt_of_le (by have := World.block_lt_of_cell? _ _ hw214_1; first | rwa [add_block] at this | exact this) GW221.out)) | (show (Addr.add _ _).block ≠ _; rw [add_block]; exact Nat.ne_of_lt (Nat.lt_of_lt_of_le (by have := World.block_lt_of_cell? _ _ hw214_1; first | rwa [add_block] at this | exact this) GW221.out)) | (dsimp only; exact Nat.ne_of_lt (Nat.lt_of_lt_of_le (by have := World.block_lt_of_cell? _ _ hw214_1; first | rwa [add_block] at this | exact this) GW221.out))) _).trans (((cell_far (p := ⟨gb221, _, none⟩) (by first | exact Nat.ne_of_lt (Nat.lt_of_lt_of_le (by have := World.block_lt_of_cell? _ _ hw214_1; first | rwa [add_block] at this | exact this) GW221.out) | (rw [add_block]; exact Nat.ne_of_lt (Nat.lt_of_lt_of_le (by have := World.block_lt_of_cell? _ _ hw214_1; first | rwa [add_block] at this | exact this) GW221.out)) | (show (Addr.add _ _).block ≠ _; rw [add_block]; exact Nat.ne_of_lt (Nat.lt_of_lt_of_le (by have := World.block_lt_of_cell? _ _ hw214_1; first | rwa [add_block] at this | exact this) GW221.out)) | (dsimp only; exact Nat.ne_of_lt (Nat.lt_of_lt_of_le (by have := World.block_lt_of_cell? _ _ hw214_1; first | rwa [add_block] at this | exact this) GW221.out))) _).trans (hHeld.2.2.2.2.2.2.2.1)))))), ((cell_far (p := ⟨gb221, _, none⟩) (by first | exact Nat.ne_of_lt (Nat.lt_of_lt_of_le (by have := World.block_lt_of_cell? _ _ hw214_2; first | rwa [add_block] at this | exact this) GW221.out) | (rw [add_block]; exact Nat.ne_of_lt (Nat.lt_of_lt_of_le (by have := World.block_lt_of_cell? _ _ hw214_2; first | rwa [add_block] at this | exact this) GW221.out)) | (show (Addr.add _ _).block ≠ _; rw [add_block]; exact Nat.ne_of_lt (Nat.lt_of_lt_of_le (by have := World.block_lt_of_cell? _ _ hw214_2; first | rwa [add_block] at this | exact this) GW221.out)) | (dsimp only; exact Nat.ne_of_lt (Nat.lt_of_lt_of_le (by have := World.block_lt_of_cell? _ _ hw214_2; first | rwa [add_block] at this | exact this) GW221.out))) _).trans (((cell_far (p := ⟨gb221, _, none⟩) (by first | exact Nat.ne_of_lt (Nat.lt_of_lt_of_le (by have := World.block_lt_of_cell? _ _ hw214_2; first | rwa [add_block] at this | exact this) GW221.out) | (rw [add_block]; exact Nat.ne_of_lt (Nat.lt_of_lt_of_le (by have := World.block_lt_of_cell? _ _ hw214_2; first | rwa [add_block] at this | exact this) GW221.out)) | (show (Addr.add _ _).block ≠ _; rw [add_block]; exact Nat.ne_of_lt (Nat.lt_of_lt_of_le (by have := World.block_lt_of_cell? _ _ hw214_2; first | rwa [add_block] at this | exact this) GW221.out)) | (dsimp only; exact Nat.ne_of_lt (Nat.lt_of_lt_of_le (by have := World.block_lt_of_cell? _ _ hw214_2; first | rwa [add_block] at this | exact this) GW221.out))) _).trans (((cell_far (p := ⟨gb221, _, none⟩) (by first | exact Nat.ne_of_lt (Nat.lt_of_lt_of_le (by have := World.block_lt_of_cell? _ _ hw214_2; first | rwa [add_block] at this | exact this) GW221.out) | (rw [add_block]; exact Nat.ne_of_lt (Nat.lt_of_lt_of_le (by have := World.block_lt_of_cell? _ _ hw214_2; first | rwa [add_block] at this | exact this) GW221.out)) | (show (Addr.add _ _).block ≠ _; rw [add_block]; exact Nat.ne_of_lt (Nat.lt_of_lt_of_le (by have := World.block_lt_of_cell? _ _ hw214_2; first | rwa [add_block] at this | exact this) GW221.out)) | (dsimp only; exact Nat.ne_of_lt (Nat.lt_of_lt_of_le (by have := World.block_lt_of_cell? _ _ hw214_2; first | rwa [add_block] at this | exact this) GW221.out))) _).trans (hHeld.2.2.2.2.2.2.2.2))))))⟩ (fun hHeld => ?_)
        clear hK K
        refine done_ (done_of HT_.out (by kernel_rfl)) ?_
        go_upto_region 4 with (fail)
        go_cut [32] (fun v32 wc => ∃ (kq : Nat) (x32_11 : Bool), v32 = .bool x32_11 ∧ Aside0 (impl_exprFold.j0 kq x32_11 a0_0 a0_1 l0_2 t209 t210 t211 t215 t216 t217 = some (r1, r2, r3)) ∧ Aside0 (kq ≤ k) ∧ Aside0 (Kd.N k25 25 wc w.heap.size (fun k_ => (w.heap.size ≤ k_) ∧ some k_ ≠ ((.slice Ao29 t217.length co29) : Value).ownBlock ∧ k_ ≠ gb206 ∧ k_ ≠ gb207 ∧ k_ ≠ gb220 ∧ k_ ≠ gb221) (.slice Ao25 t211.length co25) t211) ∧ Aside0 (Kd.N k25 25 wc w.heap.size (fun k_ => (w.heap.size ≤ k_) ∧ some k_ ≠ ((.slice Ao25 t211.length co25) : Value).ownBlock ∧ k_ ≠ gb206 ∧ k_ ≠ gb207 ∧ k_ ≠ gb220 ∧ k_ ≠ gb221) (.slice Ao29 t217.length co29) t217) ∧ Aside0 (wc.heap[gb206]? = some (.cells #[.int .i64 a0_0, .int .i64 a0_1, (.slice (some ad208) l0_2.length c0_2)] 25 (0, 0))) ∧ Aside0 (wc.heap[gb207]? = some (.cells #[.int .i64 0, .int .i64 0, (.slice none 0 0)] 25 (0, 0))) ∧ Aside0 (wc.heap[gb220]? = some (.cells #[.int .i64 t209, .int .i64 t210, (.slice Ao25 t211.length co25)] 25 (0, 0))) ∧ Aside0 (wc.heap[gb221]? = some (.cells #[.int .i64 t215, .int .i64 t216, (.slice Ao29 t217.length co29)] 25 (0, 0))) ∧ Aside0 (Below w.heap.size w wc))
        case first =>
          have H := HC12.out
          clear HC12
          by_cases c31 : t209 = 0
          · rw [if_pos c31] at H
            have c31b0 : (t209 == 0) = true := beq_iff_eq.mpr c31
            have c31b1 : (t209 != 0) = false := bne_eq_false_iff_eq.mpr c31
            clear c31
            (first | rw [c31b0] | (simp only [i64_w, i32_w]; rw [c31b0]) | skip)
            have H' := Aside0.mk H
            clear H
            have hnb32 := NB220_206.out
            have hnc32 := NB206_220.out
            have hnb33 := NB220_207.out
            have hnc33 := NB207_220.out
            have hnb34 := NB220_221.out
            have hnc34 := NB221_220.out
            have hcz35_0 : w22.cell? ⟨gb220, 0, none⟩ = some (.int .i64 0) := (blk_cell BK220.out 0).trans rfl
            have hcz35_1 : w22.cell? ⟨gb220, 1, none⟩ = some (.int .i64 0) := (blk_cell BK220.out 1).trans rfl
            have hcz35_2 : w22.cell? ⟨gb220, 2, none⟩ = some (.slice none 0 0) := (blk_cell BK220.out 2).trans rfl
            have hfz35_0 := blk_frozen BK220.out 0
            have hfz35_1 := blk_frozen BK220.out 1
            have hfz35_2 := blk_frozen BK220.out 2
            have hnb36 := NB221_206.out
            have hnc36 := NB206_221.out
            have hnb37 := NB221_207.out
            have hnc37 := NB207_221.out
            have hcz38_0 : w22.cell? ⟨gb221, 0, none⟩ = some (.int .i64 0) := (blk_cell BK221.out 0).trans rfl
            have hcz38_1 : w22.cell? ⟨gb221, 1, none⟩ = some (.int .i64 0) := (blk_cell BK221.out 1).trans rfl
            have hcz38_2 : w22.cell? ⟨gb221, 2, none⟩ = some (.slice none 0 0) := (blk_cell BK221.out 2).trans rfl
            have hfz38_0 := blk_frozen BK221.out 0
            have hfz38_1 := blk_frozen BK221.out 1
            have hfz38_2 := blk_frozen BK221.out 2
            go_wp2
            go_meet
            case rel => exact ⟨_, ((t215 == 0)), (by first | rfl | (simp; done) | (simp [*]; done)), H', ⟨by first | omega | exact Nat.le_refl _⟩, ⟨by (with_reducible repeat (first | apply Kd.N_alloc | apply Kd.N_drewN | apply Kd.N_drew)); exact Kd.N_mono (Kd.N_far (p := ⟨gb221, 2, none⟩) (Kd.N_far (p := ⟨gb221, 1, none⟩) (Kd.N_far (p := ⟨gb221, 0, none⟩) (Kd.N_far (p := ⟨gb220, 2, none⟩) (Kd.N_far (p := ⟨gb220, 1, none⟩) (Kd.N_far (p := ⟨gb220, 0, none⟩) (Kd.N_mono (Kd.N_mono HO213.out (fun k_ hk => (⟨hk, hk.2.2.2.2.1⟩ : _ ∧ k_ ≠ gb220))) (fun k_ hk => (⟨hk, hk.1.2.2.2.2.2⟩ : _ ∧ k_ ≠ gb221))) (fun _ hk => hk.1.2) (.int .i64 t209)) (fun _ hk => hk.1.2) (.int .i64 t210)) (fun _ hk => hk.1.2) (.slice Ao25 t211.length co25)) (fun _ hk => hk.2) (.int .i64 t215)) (fun _ hk => hk.2) (.int .i64 t216)) (fun _ hk => hk.2) (.slice Ao29 t217.length co29)) (fun _ hk => ⟨hk.1.1.1, ⟨hk.1.1.2.1, ⟨hk.1.1.2.2.1, ⟨hk.1.1.2.2.2.1, ⟨hk.1.1.2.2.2.2.1, hk.1.1.2.2.2.2.2⟩⟩⟩⟩⟩)⟩, ⟨by (with_reducible repeat (first | apply Kd.N_alloc | apply Kd.N_drewN | apply Kd.N_drew)); exact Kd.N_mono (Kd.N_far (p := ⟨gb221, 2, none⟩) (Kd.N_far (p := ⟨gb221, 1, none⟩) (Kd.N_far (p := ⟨gb221, 0, none⟩) (Kd.N_far (p := ⟨gb220, 2, none⟩) (Kd.N_far (p := ⟨gb220, 1, none⟩) (Kd.N_far (p := ⟨gb220, 0, none⟩) (Kd.N_mono (Kd.N_mono HO219.out (fun k_ hk => (⟨hk, hk.2.2.2.2.1⟩ : _ ∧ k_ ≠ gb220))) (fun k_ hk => (⟨hk, hk.1.2.2.2.2.2⟩ : _ ∧ k_ ≠ gb221))) (fun _ hk => hk.1.2) (.int .i64 t209)) (fun _ hk => hk.1.2) (.int .i64 t210)) (fun _ hk => hk.1.2) (.slice Ao25 t211.length co25)) (fun _ hk => hk.2) (.int .i64 t215)) (fun _ hk => hk.2) (.int .i64 t216)) (fun _ hk => hk.2) (.slice Ao29 t217.length co29)) (fun _ hk => ⟨hk.1.1.1, ⟨hk.1.1.2.1, ⟨hk.1.1.2.2.1, ⟨hk.1.1.2.2.2.1, ⟨hk.1.1.2.2.2.2.1, hk.1.1.2.2.2.2.2⟩⟩⟩⟩⟩)⟩, ⟨by (with_reducible repeat (first | refine blk_drewN ?_ _ | refine blk_drew ?_ | refine blk_alloc ?_ _)); refine blk_far ?_ NB206_221.out _; (with_reducible repeat (first | refine blk_drewN ?_ _ | refine blk_drew ?_ | refine blk_alloc ?_ _)); refine blk_far ?_ NB206_221.out _; (with_reducible repeat (first | refine blk_drewN ?_ _ | refine blk_drew ?_ | refine blk_alloc ?_ _)); refine blk_far ?_ NB206_221.out _; (with_reducible repeat (first | refine blk_drewN ?_ _ | refine blk_drew ?_ | refine blk_alloc ?_ _)); refine blk_far ?_ NB206_220.out _; (with_reducible repeat (first | refine blk_drewN ?_ _ | refine blk_drew ?_ | refine blk_alloc ?_ _)); refine blk_far ?_ NB206_220.out _; (with_reducible repeat (first | refine blk_drewN ?_ _ | refine blk_drew ?_ | refine blk_alloc ?_ _)); refine blk_far ?_ NB206_220.out _; (with_reducible repeat (first | refine blk_drewN ?_ _ | refine blk_drew ?_ | refine blk_alloc ?_ _)); exact BK206.out⟩, ⟨by (with_reducible repeat (first | refine blk_drewN ?_ _ | refine blk_drew ?_ | refine blk_alloc ?_ _)); refine blk_far ?_ NB207_221.out _; (with_reducible repeat (first | refine blk_drewN ?_ _ | refine blk_drew ?_ | refine blk_alloc ?_ _)); refine blk_far ?_ NB207_221.out _; (with_reducible repeat (first | refine blk_drewN ?_ _ | refine blk_drew ?_ | refine blk_alloc ?_ _)); refine blk_far ?_ NB207_221.out _; (with_reducible repeat (first | refine blk_drewN ?_ _ | refine blk_drew ?_ | refine blk_alloc ?_ _)); refine blk_far ?_ NB207_220.out _; (with_reducible repeat (first | refine blk_drewN ?_ _ | refine blk_drew ?_ | refine blk_alloc ?_ _)); refine blk_far ?_ NB207_220.out _; (with_reducible repeat (first | refine blk_drewN ?_ _ | refine blk_drew ?_ | refine blk_alloc ?_ _)); refine blk_far ?_ NB207_220.out _; (with_reducible repeat (first | refine blk_drewN ?_ _ | refine blk_drew ?_ | refine blk_alloc ?_ _)); exact BK207.out⟩, ⟨by (with_reducible repeat (first | refine blk_drewN ?_ _ | refine blk_drew ?_ | refine blk_alloc ?_ _)); refine blk_far ?_ NB220_221.out _; (with_reducible repeat (first | refine blk_drewN ?_ _ | refine blk_drew ?_ | refine blk_alloc ?_ _)); refine blk_far ?_ NB220_221.out _; (with_reducible repeat (first | refine blk_drewN ?_ _ | refine blk_drew ?_ | refine blk_alloc ?_ _)); refine blk_far ?_ NB220_221.out _; (with_reducible repeat (first | refine blk_drewN ?_ _ | refine blk_drew ?_ | refine blk_alloc ?_ _)); refine blk_put (cs := #[.int .i64 t209, .int .i64 t210, .slice none 0 0]) ?_ 2 _ rfl; (with_reducible repeat (first | refine blk_drewN ?_ _ | refine blk_drew ?_ | refine blk_alloc ?_ _)); refine blk_put (cs := #[.int .i64 t209, .int .i64 0, .slice none 0 0]) ?_ 1 _ rfl; (with_reducible repeat (first | refine blk_drewN ?_ _ | refine blk_drew ?_ | refine blk_alloc ?_ _)); refine blk_put (cs := #[.int .i64 0, .int .i64 0, .slice none 0 0]) ?_ 0 _ rfl; (with_reducible repeat (first | refine blk_drewN ?_ _ | refine blk_drew ?_ | refine blk_alloc ?_ _)); exact BK220.out⟩, ⟨by (with_reducible repeat (first | refine blk_drewN ?_ _ | refine blk_drew ?_ | refine blk_alloc ?_ _)); refine blk_put (cs := #[.int .i64 t215, .int .i64 t216, .slice none 0 0]) ?_ 2 _ rfl; (with_reducible repeat (first | refine blk_drewN ?_ _ | refine blk_drew ?_ | refine blk_alloc ?_ _)); refine blk_put (cs := #[.int .i64 t215, .int .i64 0, .slice none 0 0]) ?_ 1 _ rfl; (with_reducible repeat (first | refine blk_drewN ?_ _ | refine blk_drew ?_ | refine blk_alloc ?_ _)); refine blk_put (cs := #[.int .i64 0, .int .i64 0, .slice none 0 0]) ?_ 0 _ rfl; (with_reducible repeat (first | refine blk_drewN ?_ _ | refine blk_drew ?_ | refine blk_alloc ?_ _)); refine blk_far ?_ NB221_220.out _; (with_reducible repeat (first | refine blk_drewN ?_ _ | refine blk_drew ?_ | refine blk_alloc ?_ _)); refine blk_far ?_ NB221_220.out _; (with_reducible repeat (first | refine blk_drewN ?_ _ | refine blk_drew ?_ | refine blk_alloc ?_ _)); refine blk_far ?_ NB221_220.out _; (with_reducible repeat (first | refine blk_drewN ?_ _ | refine blk_drew ?_ | refine blk_alloc ?_ _)); exact BK221.out⟩, ⟨ab6_⟩⟩
          · rw [if_neg c31] at H
            have c31b0 : (t209 == 0) = false := beq_eq_false_iff_ne.mpr c31
            have c31b1 : (t209 != 0) = true := bne_iff_ne.mpr c31
            (first | rw [c31b0] | (simp only [i64_w, i32_w]; rw [c31b0]) | skip)
            have H' := Aside0.mk H
            clear H
            have hnb39 := NB220_206.out
            have hnc39 := NB206_220.out
            have hnb40 := NB220_207.out
            have hnc40 := NB207_220.out
            have hnb41 := NB220_221.out
            have hnc41 := NB221_220.out
            have hcz42_0 : w22.cell? ⟨gb220, 0, none⟩ = some (.int .i64 0) := (blk_cell BK220.out 0).trans rfl
            have hcz42_1 : w22.cell? ⟨gb220, 1, none⟩ = some (.int .i64 0) := (blk_cell BK220.out 1).trans rfl
            have hcz42_2 : w22.cell? ⟨gb220, 2, none⟩ = some (.slice none 0 0) := (blk_cell BK220.out 2).trans rfl
            have hfz42_0 := blk_frozen BK220.out 0
            have hfz42_1 := blk_frozen BK220.out 1
            have hfz42_2 := blk_frozen BK220.out 2
            go_wp2
            go_meet
            case rel => exact ⟨_, (false), (by first | rfl | (simp; done) | (simp [*]; done)), H', ⟨by first | omega | exact Nat.le_refl _⟩, ⟨by (with_reducible repeat (first | apply Kd.N_alloc | apply Kd.N_drewN | apply Kd.N_drew)); exact Kd.N_mono (Kd.N_far (p := ⟨gb221, 2, none⟩) (Kd.N_far (p := ⟨gb221, 1, none⟩) (Kd.N_far (p := ⟨gb221, 0, none⟩) (Kd.N_far (p := ⟨gb220, 2, none⟩) (Kd.N_far (p := ⟨gb220, 1, none⟩) (Kd.N_far (p := ⟨gb220, 0, none⟩) (Kd.N_mono (Kd.N_mono HO213.out (fun k_ hk => (⟨hk, hk.2.2.2.2.1⟩ : _ ∧ k_ ≠ gb220))) (fun k_ hk => (⟨hk, hk.1.2.2.2.2.2⟩ : _ ∧ k_ ≠ gb221))) (fun _ hk => hk.1.2) (.int .i64 t209)) (fun _ hk => hk.1.2) (.int .i64 t210)) (fun _ hk => hk.1.2) (.slice Ao25 t211.length co25)) (fun _ hk => hk.2) (.int .i64 t215)) (fun _ hk => hk.2) (.int .i64 t216)) (fun _ hk => hk.2) (.slice Ao29 t217.length co29)) (fun _ hk => ⟨hk.1.1.1, ⟨hk.1.1.2.1, ⟨hk.1.1.2.2.1, ⟨hk.1.1.2.2.2.1, ⟨hk.1.1.2.2.2.2.1, hk.1.1.2.2.2.2.2⟩⟩⟩⟩⟩)⟩, ⟨by (with_reducible repeat (first | apply Kd.N_alloc | apply Kd.N_drewN | apply Kd.N_drew)); exact Kd.N_mono (Kd.N_far (p := ⟨gb221, 2, none⟩) (Kd.N_far (p := ⟨gb221, 1, none⟩) (Kd.N_far (p := ⟨gb221, 0, none⟩) (Kd.N_far (p := ⟨gb220, 2, none⟩) (Kd.N_far (p := ⟨gb220, 1, none⟩) (Kd.N_far (p := ⟨gb220, 0, none⟩) (Kd.N_mono (Kd.N_mono HO219.out (fun k_ hk => (⟨hk, hk.2.2.2.2.1⟩ : _ ∧ k_ ≠ gb220))) (fun k_ hk => (⟨hk, hk.1.2.2.2.2.2⟩ : _ ∧ k_ ≠ gb221))) (fun _ hk => hk.1.2) (.int .i64 t209)) (fun _ hk => hk.1.2) (.int .i64 t210)) (fun _ hk => hk.1.2) (.slice Ao25 t211.length co25)) (fun _ hk => hk.2) (.int .i64 t215)) (fun _ hk => hk.2) (.int .i64 t216)) (fun _ hk => hk.2) (.slice Ao29 t217.length co29)) (fun _ hk => ⟨hk.1.1.1, ⟨hk.1.1.2.1, ⟨hk.1.1.2.2.1, ⟨hk.1.1.2.2.2.1, ⟨hk.1.1.2.2.2.2.1, hk.1.1.2.2.2.2.2⟩⟩⟩⟩⟩)⟩, ⟨by (with_reducible repeat (first | refine blk_drewN ?_ _ | refine blk_drew ?_ | refine blk_alloc ?_ _)); refine blk_far ?_ NB206_221.out _; (with_reducible repeat (first | refine blk_drewN ?_ _ | refine blk_drew ?_ | refine blk_alloc ?_ _)); refine blk_far ?_ NB206_221.out _; (with_reducible repeat (first | refine blk_drewN ?_ _ | refine blk_drew ?_ | refine blk_alloc ?_ _)); refine blk_far ?_ NB206_221.out _; (with_reducible repeat (first | refine blk_drewN ?_ _ | refine blk_drew ?_ | refine blk_alloc ?_ _)); refine blk_far ?_ NB206_220.out _; (with_reducible repeat (first | refine blk_drewN ?_ _ | refine blk_drew ?_ | refine blk_alloc ?_ _)); refine blk_far ?_ NB206_220.out _; (with_reducible repeat (first | refine blk_drewN ?_ _ | refine blk_drew ?_ | refine blk_alloc ?_ _)); refine blk_far ?_ NB206_220.out _; (with_reducible repeat (first | refine blk_drewN ?_ _ | refine blk_drew ?_ | refine blk_alloc ?_ _)); exact BK206.out⟩, ⟨by (with_reducible repeat (first | refine blk_drewN ?_ _ | refine blk_drew ?_ | refine blk_alloc ?_ _)); refine blk_far ?_ NB207_221.out _; (with_reducible repeat (first | refine blk_drewN ?_ _ | refine blk_drew ?_ | refine blk_alloc ?_ _)); refine blk_far ?_ NB207_221.out _; (with_reducible repeat (first | refine blk_drewN ?_ _ | refine blk_drew ?_ | refine blk_alloc ?_ _)); refine blk_far ?_ NB207_221.out _; (with_reducible repeat (first | refine blk_drewN ?_ _ | refine blk_drew ?_ | refine blk_alloc ?_ _)); refine blk_far ?_ NB207_220.out _; (with_reducible repeat (first | refine blk_drewN ?_ _ | refine blk_drew ?_ | refine blk_alloc ?_ _)); refine blk_far ?_ NB207_220.out _; (with_reducible repeat (first | refine blk_drewN ?_ _ | refine blk_drew ?_ | refine blk_alloc ?_ _)); refine blk_far ?_ NB207_220.out _; (with_reducible repeat (first | refine blk_drewN ?_ _ | refine blk_drew ?_ | refine blk_alloc ?_ _)); exact BK207.out⟩, ⟨by (with_reducible repeat (first | refine blk_drewN ?_ _ | refine blk_drew ?_ | refine blk_alloc ?_ _)); refine blk_far ?_ NB220_221.out _; (with_reducible repeat (first | refine blk_drewN ?_ _ | refine blk_drew ?_ | refine blk_alloc ?_ _)); refine blk_far ?_ NB220_221.out _; (with_reducible repeat (first | refine blk_drewN ?_ _ | refine blk_drew ?_ | refine blk_alloc ?_ _)); refine blk_far ?_ NB220_221.out _; (with_reducible repeat (first | refine blk_drewN ?_ _ | refine blk_drew ?_ | refine blk_alloc ?_ _)); refine blk_put (cs := #[.int .i64 t209, .int .i64 t210, .slice none 0 0]) ?_ 2 _ rfl; (with_reducible repeat (first | refine blk_drewN ?_ _ | refine blk_drew ?_ | refine blk_alloc ?_ _)); refine blk_put (cs := #[.int .i64 t209, .int .i64 0, .slice none 0 0]) ?_ 1 _ rfl; (with_reducible repeat (first | refine blk_drewN ?_ _ | refine blk_drew ?_ | refine blk_alloc ?_ _)); refine blk_put (cs := #[.int .i64 0, .int .i64 0, .slice none 0 0]) ?_ 0 _ rfl; (with_reducible repeat (first | refine blk_drewN ?_ _ | refine blk_drew ?_ | refine blk_alloc ?_ _)); exact BK220.out⟩, ⟨by (with_reducible repeat (first | refine blk_drewN ?_ _ | refine blk_drew ?_ | refine blk_alloc ?_ _)); refine blk_put (cs := #[.int .i64 t215, .int .i64 t216, .slice none 0 0]) ?_ 2 _ rfl; (with_reducible repeat (first | refine blk_drewN ?_ _ | refine blk_drew ?_ | refine blk_alloc ?_ _)); refine blk_put (cs := #[.int .i64 t215, .int .i64 0, .slice none 0 0]) ?_ 1 _ rfl; (with_reducible repeat (first | refine blk_drewN ?_ _ | refine blk_drew ?_ | refine blk_alloc ?_ _)); refine blk_put (cs := #[.int .i64 0, .int .i64 0, .slice none 0 0]) ?_ 0 _ rfl; (with_reducible repeat (first | refine blk_drewN ?_ _ | refine blk_drew ?_ | refine blk_alloc ?_ _)); refine blk_far ?_ NB221_220.out _; (with_reducible repeat (first | refine blk_drewN ?_ _ | refine blk_drew ?_ | refine blk_alloc ?_ _)); refine blk_far ?_ NB221_220.out _; (with_reducible repeat (first | refine blk_drewN ?_ _ | refine blk_drew ?_ | refine blk_alloc ?_ _)); refine blk_far ?_ NB221_220.out _; (with_reducible repeat (first | refine blk_drewN ?_ _ | refine blk_drew ?_ | refine blk_alloc ?_ _)); exact BK221.out⟩, ⟨ab6_⟩⟩
        case rest =>
          clear HC12
          try clear c2
          try clear p2
          try clear c3
          try clear c4
          try clear c5
          try clear c20
          try clear c21
          try clear c31
          try clear c31b0
          try clear c31b1
          try clear c32
          try clear c33
          try clear c34
          try clear c36
          try clear c37
          try clear c39
          try clear c40
          try clear c41
          try clear hcz35_0
          try clear hcz35_1
          try clear hcz35_2
          try clear hcz38_0
          try clear hcz38_1
          try clear hcz38_2
          try clear hcz42_0
          try clear hcz42_1
          try clear hcz42_2
          try clear hfz35_0
          try clear hfz35_1
          try clear hfz35_2
          try clear hfz38_0
          try clear hfz38_1
          try clear hfz38_2
          try clear hfz42_0
          try clear hfz42_1
          try clear hfz42_2
          obtain ⟨kq, x32_11, rfl, HA, HJ11, HO_221002, HO_222002, BK206, BK207, BK220, BK221, HB⟩ := hcut
          cases kq with
          | zero => exact absurd HA.out (by simp [impl_exprFold.j0])
          | succ kj11 =>
            have H := HA.out
            clear HA
            simp only [impl_exprFold.j0] at H
            by_cases c43 : x32_11 = true
            · subst c43
              have H1 : ((impl_apply.f a0_0 t210 t216).bind fun t222 => (if t222 ≥ 0 then (if t222 ≤ 99999 then (some (0, t222, ([] : List (S25)))) else (some (a0_0, 0, (([(⟨t209, t210, t211⟩ : S25), (⟨t215, t216, t217⟩ : S25)] : List (S25)))))) else (some (a0_0, 0, (([(⟨t209, t210, t211⟩ : S25), (⟨t215, t216, t217⟩ : S25)] : List (S25))))))) = some (r1, r2, r3) := by rw [if_pos rfl] at H; exact H
              clear H
              have H := H1
              clear H1
              replace H := Option.bind_eq_some_iff.mp H
              obtain ⟨t222, A440, H⟩ := H
              replace H : (if t222 ≥ 0 then (if t222 ≤ 99999 then (some (0, t222, ([] : List (S25)))) else (some (a0_0, 0, (([(⟨t209, t210, t211⟩ : S25), (⟨t215, t216, t217⟩ : S25)] : List (S25)))))) else (some (a0_0, 0, (([(⟨t209, t210, t211⟩ : S25), (⟨t215, t216, t217⟩ : S25)] : List (S25)))))) = some (r1, r2, r3) := H
              have A44 := Aside0.mk A440
              clear A440
              by_cases c45 : t222 ≥ 0
              · rw [if_pos c45] at H
                have c45b0 : decide (0 ≤ t222) = true := decide_eq_true c45
                clear c45
                by_cases c46 : t222 ≤ 99999
                · rw [if_pos c46] at H
                  have c46b0 : decide (t222 ≤ 99999) = true := decide_eq_true c46
                  clear c46
                  simp only [Option.some.injEq, Prod.mk.injEq] at H
                  obtain ⟨rfl, rfl, rfl⟩ := H
                  have hnb47 := NB206_207.out
                  have hnc47 := NB207_206.out
                  have hnb48 := NB206_220.out
                  have hnc48 := NB220_206.out
                  have hnb49 := NB206_221.out
                  have hnc49 := NB221_206.out
                  have hcz50_0 : wc.cell? ⟨gb206, 0, none⟩ = some (.int .i64 a0_0) := (blk_cell BK206.out 0).trans rfl
                  have hcz50_1 : wc.cell? ⟨gb206, 1, none⟩ = some (.int .i64 a0_1) := (blk_cell BK206.out 1).trans rfl
                  have hcz50_2 : wc.cell? ⟨gb206, 2, none⟩ = some (.slice (some ad208) l0_2.length c0_2) := (blk_cell BK206.out 2).trans rfl
                  have hfz50_0 := blk_frozen BK206.out 0
                  have hfz50_1 := blk_frozen BK206.out 1
                  have hfz50_2 := blk_frozen BK206.out 2
                  have hnb51 := NB220_207.out
                  have hnc51 := NB207_220.out
                  have hnb52 := NB220_221.out
                  have hnc52 := NB221_220.out
                  have hcz53_0 : wc.cell? ⟨gb220, 0, none⟩ = some (.int .i64 t209) := (blk_cell BK220.out 0).trans rfl
                  have hcz53_1 : wc.cell? ⟨gb220, 1, none⟩ = some (.int .i64 t210) := (blk_cell BK220.out 1).trans rfl
                  have hcz53_2 : wc.cell? ⟨gb220, 2, none⟩ = some (.slice Ao25 t211.length co25) := (blk_cell BK220.out 2).trans rfl
                  have hfz53_0 := blk_frozen BK220.out 0
                  have hfz53_1 := blk_frozen BK220.out 1
                  have hfz53_2 := blk_frozen BK220.out 2
                  have hnb54 := NB221_207.out
                  have hnc54 := NB207_221.out
                  have hcz55_0 : wc.cell? ⟨gb221, 0, none⟩ = some (.int .i64 t215) := (blk_cell BK221.out 0).trans rfl
                  have hcz55_1 : wc.cell? ⟨gb221, 1, none⟩ = some (.int .i64 t216) := (blk_cell BK221.out 1).trans rfl
                  have hcz55_2 : wc.cell? ⟨gb221, 2, none⟩ = some (.slice Ao29 t217.length co29) := (blk_cell BK221.out 2).trans rfl
                  have hfz55_0 := blk_frozen BK221.out 0
                  have hfz55_1 := blk_frozen BK221.out 1
                  have hfz55_2 := blk_frozen BK221.out 2
                  go_wp2_with (first | ((with_reducible refine gate_callee (f := 65) rfl ?_); refine goesL_ (some 39) rfl rfl Try.func65 (by kernel_rfl) rfl #[.int .i64 a0_0, .int .i64 t210, .int .i64 t216] rfl ab1_ ?_; (with_reducible refine (impl_apply.calls a0_0 t210 t216 t222 _ A44.out).mono ?_); rintro e w' ⟨rfl, ⟨nd, rfl⟩⟩; refine ⟨_, rfl, ?_⟩; (try (rw [drewN_self wc]; generalize hq_ : World.drewN wc _ = wc; have n0_ : Aside0 (Kd.N k25 25 wc w.heap.size (fun k_ => (w.heap.size ≤ k_) ∧ some k_ ≠ (.slice Ao29 t217.length co29 : Value).ownBlock ∧ k_ ≠ gb206 ∧ k_ ≠ gb207 ∧ k_ ≠ gb220 ∧ k_ ≠ gb221) (.slice Ao25 t211.length co25) t211) := ⟨by rw [← hq_]; exact (aN_ HO_221002.out)⟩; have n1_ : Aside0 (Kd.N k25 25 wc w.heap.size (fun k_ => (w.heap.size ≤ k_) ∧ some k_ ≠ (.slice Ao25 t211.length co25 : Value).ownBlock ∧ k_ ≠ gb206 ∧ k_ ≠ gb207 ∧ k_ ≠ gb220 ∧ k_ ≠ gb221) (.slice Ao29 t217.length co29) t217) := ⟨by rw [← hq_]; exact (aN_ HO_222002.out)⟩; have n2_ : Aside0 (wc.heap[gb206]? = some (.cells #[.int .i64 a0_0, .int .i64 a0_1, .slice (some ad208) l0_2.length c0_2] 25 (0, 0))) := ⟨by rw [← hq_]; exact (aG_ BK206.out)⟩; have n3_ : Aside0 (wc.heap[gb207]? = some (.cells #[.int .i64 0, .int .i64 0, .slice none 0 0] 25 (0, 0))) := ⟨by rw [← hq_]; exact (aG_ BK207.out)⟩; have n4_ : Aside0 (wc.heap[gb220]? = some (.cells #[.int .i64 t209, .int .i64 t210, .slice Ao25 t211.length co25] 25 (0, 0))) := ⟨by rw [← hq_]; exact (aG_ BK220.out)⟩; have n5_ : Aside0 (wc.heap[gb221]? = some (.cells #[.int .i64 t215, .int .i64 t216, .slice Ao29 t217.length co29] 25 (0, 0))) := ⟨by rw [← hq_]; exact (aG_ BK221.out)⟩; have n6_ : Aside0 (Below w.heap.size w wc) := ⟨by rw [← hq_]; exact ab6_⟩; clear HO_221002 HO_222002 BK206 BK207 BK220 BK221 HB hq_; have HO_221002 := n0_; have HO_222002 := n1_; have BK206 := n2_; have BK207 := n3_; have BK220 := n4_; have BK221 := n5_; have HB := n6_; clear n0_ n1_ n2_ n3_ n4_ n5_ n6_; have hczG17_0 : wc.cell? ⟨gb206, 0, none⟩ = some (.int .i64 a0_0) := (blk_cell BK206.out 0).trans rfl; have hfzG17_0 := blk_frozen BK206.out 0; have hczG17_1 : wc.cell? ⟨gb206, 1, none⟩ = some (.int .i64 a0_1) := (blk_cell BK206.out 1).trans rfl; have hfzG17_1 := blk_frozen BK206.out 1; have hczG17_2 : wc.cell? ⟨gb206, 2, none⟩ = some (.slice (some ad208) l0_2.length c0_2) := (blk_cell BK206.out 2).trans rfl; have hfzG17_2 := blk_frozen BK206.out 2; have hczG18_0 : wc.cell? ⟨gb207, 0, none⟩ = some (.int .i64 0) := (blk_cell BK207.out 0).trans rfl; have hfzG18_0 := blk_frozen BK207.out 0; have hczG18_1 : wc.cell? ⟨gb207, 1, none⟩ = some (.int .i64 0) := (blk_cell BK207.out 1).trans rfl; have hfzG18_1 := blk_frozen BK207.out 1; have hczG18_2 : wc.cell? ⟨gb207, 2, none⟩ = some (.slice none 0 0) := (blk_cell BK207.out 2).trans rfl; have hfzG18_2 := blk_frozen BK207.out 2; have hczG19_0 : wc.cell? ⟨gb220, 0, none⟩ = some (.int .i64 t209) := (blk_cell BK220.out 0).trans rfl; have hfzG19_0 := blk_frozen BK220.out 0; have hczG19_1 : wc.cell? ⟨gb220, 1, none⟩ = some (.int .i64 t210) := (blk_cell BK220.out 1).trans rfl; have hfzG19_1 := blk_frozen BK220.out 1; have hczG19_2 : wc.cell? ⟨gb220, 2, none⟩ = some (.slice Ao25 t211.length co25) := (blk_cell BK220.out 2).trans rfl; have hfzG19_2 := blk_frozen BK220.out 2; have hczG20_0 : wc.cell? ⟨gb221, 0, none⟩ = some (.int .i64 t215) := (blk_cell BK221.out 0).trans rfl; have hfzG20_0 := blk_frozen BK221.out 0; have hczG20_1 : wc.cell? ⟨gb221, 1, none⟩ = some (.int .i64 t216) := (blk_cell BK221.out 1).trans rfl; have hfzG20_1 := blk_frozen BK221.out 1; have hczG20_2 : wc.cell? ⟨gb221, 2, none⟩ = some (.slice Ao29 t217.length co29) := (blk_cell BK221.out 2).trans rfl; have hfzG20_2 := blk_frozen BK221.out 2)); have hcz56_0 : wc.cell? ⟨gb207, 0, none⟩ = some (.int .i64 0) := (blk_cell BK207.out 0).trans rfl; have hcz56_1 : wc.cell? ⟨gb207, 1, none⟩ = some (.int .i64 0) := (blk_cell BK207.out 1).trans rfl; have hcz56_2 : wc.cell? ⟨gb207, 2, none⟩ = some (.slice none 0 0) := (blk_cell BK207.out 2).trans rfl; have hfz56_0 := blk_frozen BK207.out 0; have hfz56_1 := blk_frozen BK207.out 1; have hfz56_2 := blk_frozen BK207.out 2))
                  refine bodyPost_ret (results_cell_row rfl _ _ gb207 25 #[.int .i64 0, .int .i64 t222, .slice none 0 0] (0, 0) _ rfl (by (with_reducible repeat (first | refine blk_drewN ?_ _ | refine blk_drew ?_ | refine blk_alloc ?_ _)); refine blk_put (cs := #[.int .i64 0, .int .i64 t222, .slice none 0 0]) ?_ 2 _ rfl; (with_reducible repeat (first | refine blk_drewN ?_ _ | refine blk_drew ?_ | refine blk_alloc ?_ _)); refine blk_put (cs := #[.int .i64 0, .int .i64 0, .slice none 0 0]) ?_ 1 _ rfl; (with_reducible repeat (first | refine blk_drewN ?_ _ | refine blk_drew ?_ | refine blk_alloc ?_ _)); refine blk_put (cs := #[.int .i64 0, .int .i64 0, .slice none 0 0]) ?_ 0 _ rfl; (with_reducible repeat (first | refine blk_drewN ?_ _ | refine blk_drew ?_ | refine blk_alloc ?_ _)); exact BK207.out) Try.underlying25 rfl (by kernel_rfl)) rfl ?_
                  exact ⟨_, ab20_, by first | exact Kd.R_nil _ _ _ _ _ | exact Kd.N_nil _ _ _ _ _ | exact Kd.V_nil _ _ _ _ _ | exact Kd.Q_nil _ _ _ _ _ | exact Kd.S_nil _ _ _ _ _, ab6_⟩
                · rw [if_neg c46] at H
                  have c46b0 : decide (t222 ≤ 99999) = false := decide_eq_false c46
                  clear c46
                  obtain ⟨y223, hy223⟩ : ∃ y_ : List (S25), y_ = (([(⟨t209, t210, t211⟩ : S25), (⟨t215, t216, t217⟩ : S25)] : List (S25))) := ⟨_, rfl⟩
                  replace H : (some (a0_0, 0, y223)) = some (r1, r2, r3) := by first | (rw [hy223]; with_reducible exact H) | (have H2_ := (Option.bind_some _ _).symm.trans H; rw [hy223]; with_reducible exact H2_) | (have H2_ := (Option.bind_some _ _).symm.trans H; with_reducible exact H2_) | with_reducible exact H | (rw [hy223]; exact H) | exact H
                  have Ny223 := Aside0.mk hy223
                  clear hy223
                  simp only [Option.some.injEq, Prod.mk.injEq] at H
                  obtain ⟨rfl, rfl, rfl⟩ := H
                  have hnb57 := NB206_207.out
                  have hnc57 := NB207_206.out
                  have hnb58 := NB206_220.out
                  have hnc58 := NB220_206.out
                  have hnb59 := NB206_221.out
                  have hnc59 := NB221_206.out
                  have hcz60_0 : wc.cell? ⟨gb206, 0, none⟩ = some (.int .i64 a0_0) := (blk_cell BK206.out 0).trans rfl
                  have hcz60_1 : wc.cell? ⟨gb206, 1, none⟩ = some (.int .i64 a0_1) := (blk_cell BK206.out 1).trans rfl
                  have hcz60_2 : wc.cell? ⟨gb206, 2, none⟩ = some (.slice (some ad208) l0_2.length c0_2) := (blk_cell BK206.out 2).trans rfl
                  have hfz60_0 := blk_frozen BK206.out 0
                  have hfz60_1 := blk_frozen BK206.out 1
                  have hfz60_2 := blk_frozen BK206.out 2
                  have hnb61 := NB220_207.out
                  have hnc61 := NB207_220.out
                  have hnb62 := NB220_221.out
                  have hnc62 := NB221_220.out
                  have hcz63_0 : wc.cell? ⟨gb220, 0, none⟩ = some (.int .i64 t209) := (blk_cell BK220.out 0).trans rfl
                  have hcz63_1 : wc.cell? ⟨gb220, 1, none⟩ = some (.int .i64 t210) := (blk_cell BK220.out 1).trans rfl
                  have hcz63_2 : wc.cell? ⟨gb220, 2, none⟩ = some (.slice Ao25 t211.length co25) := (blk_cell BK220.out 2).trans rfl
                  have hfz63_0 := blk_frozen BK220.out 0
                  have hfz63_1 := blk_frozen BK220.out 1
                  have hfz63_2 := blk_frozen BK220.out 2
                  have hnb64 := NB221_207.out
                  have hnc64 := NB207_221.out
                  have hcz65_0 : wc.cell? ⟨gb221, 0, none⟩ = some (.int .i64 t215) := (blk_cell BK221.out 0).trans rfl
                  have hcz65_1 : wc.cell? ⟨gb221, 1, none⟩ = some (.int .i64 t216) := (blk_cell BK221.out 1).trans rfl
                  have hcz65_2 : wc.cell? ⟨gb221, 2, none⟩ = some (.slice Ao29 t217.length co29) := (blk_cell BK221.out 2).trans rfl
                  have hfz65_0 := blk_frozen BK221.out 0
                  have hfz65_1 := blk_frozen BK221.out 1
                  have hfz65_2 := blk_frozen BK221.out 2
                  go_wp2_with (first | ((with_reducible refine gate_callee (f := 65) rfl ?_); refine goesL_ (some 39) rfl rfl Try.func65 (by kernel_rfl) rfl #[.int .i64 a0_0, .int .i64 t210, .int .i64 t216] rfl ab1_ ?_; (with_reducible refine (impl_apply.calls a0_0 t210 t216 t222 _ A44.out).mono ?_); rintro e w' ⟨rfl, ⟨nd, rfl⟩⟩; refine ⟨_, rfl, ?_⟩; (try (rw [drewN_self wc]; generalize hq_ : World.drewN wc _ = wc; have n0_ : Aside0 (Kd.N k25 25 wc w.heap.size (fun k_ => (w.heap.size ≤ k_) ∧ some k_ ≠ (.slice Ao29 t217.length co29 : Value).ownBlock ∧ k_ ≠ gb206 ∧ k_ ≠ gb207 ∧ k_ ≠ gb220 ∧ k_ ≠ gb221) (.slice Ao25 t211.length co25) t211) := ⟨by rw [← hq_]; exact (aN_ HO_221002.out)⟩; have n1_ : Aside0 (Kd.N k25 25 wc w.heap.size (fun k_ => (w.heap.size ≤ k_) ∧ some k_ ≠ (.slice Ao25 t211.length co25 : Value).ownBlock ∧ k_ ≠ gb206 ∧ k_ ≠ gb207 ∧ k_ ≠ gb220 ∧ k_ ≠ gb221) (.slice Ao29 t217.length co29) t217) := ⟨by rw [← hq_]; exact (aN_ HO_222002.out)⟩; have n2_ : Aside0 (wc.heap[gb206]? = some (.cells #[.int .i64 a0_0, .int .i64 a0_1, .slice (some ad208) l0_2.length c0_2] 25 (0, 0))) := ⟨by rw [← hq_]; exact (aG_ BK206.out)⟩; have n3_ : Aside0 (wc.heap[gb207]? = some (.cells #[.int .i64 0, .int .i64 0, .slice none 0 0] 25 (0, 0))) := ⟨by rw [← hq_]; exact (aG_ BK207.out)⟩; have n4_ : Aside0 (wc.heap[gb220]? = some (.cells #[.int .i64 t209, .int .i64 t210, .slice Ao25 t211.length co25] 25 (0, 0))) := ⟨by rw [← hq_]; exact (aG_ BK220.out)⟩; have n5_ : Aside0 (wc.heap[gb221]? = some (.cells #[.int .i64 t215, .int .i64 t216, .slice Ao29 t217.length co29] 25 (0, 0))) := ⟨by rw [← hq_]; exact (aG_ BK221.out)⟩; have n6_ : Aside0 (Below w.heap.size w wc) := ⟨by rw [← hq_]; exact ab6_⟩; clear HO_221002 HO_222002 BK206 BK207 BK220 BK221 HB hq_; have HO_221002 := n0_; have HO_222002 := n1_; have BK206 := n2_; have BK207 := n3_; have BK220 := n4_; have BK221 := n5_; have HB := n6_; clear n0_ n1_ n2_ n3_ n4_ n5_ n6_; have hczG21_0 : wc.cell? ⟨gb206, 0, none⟩ = some (.int .i64 a0_0) := (blk_cell BK206.out 0).trans rfl; have hfzG21_0 := blk_frozen BK206.out 0; have hczG21_1 : wc.cell? ⟨gb206, 1, none⟩ = some (.int .i64 a0_1) := (blk_cell BK206.out 1).trans rfl; have hfzG21_1 := blk_frozen BK206.out 1; have hczG21_2 : wc.cell? ⟨gb206, 2, none⟩ = some (.slice (some ad208) l0_2.length c0_2) := (blk_cell BK206.out 2).trans rfl; have hfzG21_2 := blk_frozen BK206.out 2; have hczG22_0 : wc.cell? ⟨gb207, 0, none⟩ = some (.int .i64 0) := (blk_cell BK207.out 0).trans rfl; have hfzG22_0 := blk_frozen BK207.out 0; have hczG22_1 : wc.cell? ⟨gb207, 1, none⟩ = some (.int .i64 0) := (blk_cell BK207.out 1).trans rfl; have hfzG22_1 := blk_frozen BK207.out 1; have hczG22_2 : wc.cell? ⟨gb207, 2, none⟩ = some (.slice none 0 0) := (blk_cell BK207.out 2).trans rfl; have hfzG22_2 := blk_frozen BK207.out 2; have hczG23_0 : wc.cell? ⟨gb220, 0, none⟩ = some (.int .i64 t209) := (blk_cell BK220.out 0).trans rfl; have hfzG23_0 := blk_frozen BK220.out 0; have hczG23_1 : wc.cell? ⟨gb220, 1, none⟩ = some (.int .i64 t210) := (blk_cell BK220.out 1).trans rfl; have hfzG23_1 := blk_frozen BK220.out 1; have hczG23_2 : wc.cell? ⟨gb220, 2, none⟩ = some (.slice Ao25 t211.length co25) := (blk_cell BK220.out 2).trans rfl; have hfzG23_2 := blk_frozen BK220.out 2; have hczG24_0 : wc.cell? ⟨gb221, 0, none⟩ = some (.int .i64 t215) := (blk_cell BK221.out 0).trans rfl; have hfzG24_0 := blk_frozen BK221.out 0; have hczG24_1 : wc.cell? ⟨gb221, 1, none⟩ = some (.int .i64 t216) := (blk_cell BK221.out 1).trans rfl; have hfzG24_1 := blk_frozen BK221.out 1; have hczG24_2 : wc.cell? ⟨gb221, 2, none⟩ = some (.slice Ao29 t217.length co29) := (blk_cell BK221.out 2).trans rfl; have hfzG24_2 := blk_frozen BK221.out 2))) | ((with_reducible refine gate_dst (N := 52) rfl ?_); refine Kd.N_lit k25 _ 25 ?hg (N' := 52) ?hd (xs := ([(⟨t209, t210, t211⟩ : S25), (⟨t215, t216, t217⟩ : S25)] : List (S25))) (inner := [.int .i64 t209, .int .i64 t210, .slice Ao25 t211.length co25, .int .i64 t215, .int .i64 t216, .slice Ao29 t217.length co29]) (ok := (fun k_ => (w.heap.size ≤ k_) ∧ k_ ≠ gb206 ∧ k_ ≠ gb207 ∧ k_ ≠ gb220 ∧ k_ ≠ gb221)) (okp := (fun k_ => (w.heap.size ≤ k_) ∧ k_ ≠ gb206 ∧ k_ ≠ gb207 ∧ k_ ≠ gb220 ∧ k_ ≠ gb221)) ?hr ?hp (fun _ hk => hk) ((show ∀ k_, wc.heap.size ≤ k_ → (fun k_ => (w.heap.size ≤ k_) ∧ k_ ≠ gb206 ∧ k_ ≠ gb207 ∧ k_ ≠ gb220 ∧ k_ ≠ gb221) k_ from fun k_ hk => ⟨(Nat.le_trans (below_size ab6_) hk), Kd.freshB (g := gb206) (o := .cells #[.int .i64 a0_0, .int .i64 a0_1, .slice (some ad208) l0_2.length c0_2] 25 (0, 0)) (aG_ BK206.out) k_ hk, Kd.freshB (g := gb207) (o := .cells #[.int .i64 0, .int .i64 0, .slice none 0 0] 25 (0, 0)) (aG_ BK207.out) k_ hk, Kd.freshB (g := gb220) (o := .cells #[.int .i64 t209, .int .i64 t210, .slice Ao25 t211.length co25] 25 (0, 0)) (aG_ BK220.out) k_ hk, Kd.freshB (g := gb221) (o := .cells #[.int .i64 t215, .int .i64 t216, .slice Ao29 t217.length co29] 25 (0, 0)) (aG_ BK221.out) k_ hk⟩) _ (Nat.le_refl _)) (Below.refl _ _) (Nat.le_refl _) (by simp) ?_; (case hd => rfl); (case hg => rfl); (case hr => first | (go_simp; done) | (go_simp; rfl)); (case hp => exact (Reps.c3 (show Kd.FK k25 _ _ (⟨t209, t210, t211⟩ : S25) [.int .i64 t209, .int .i64 t210, .slice Ao25 t211.length co25] from (k25_mkF _ _ (⟨t209, t210, t211⟩ : S25) (Kd.N_reads' (Kd.N_mono (ok' := (fun k_ => (w.heap.size ≤ k_) ∧ k_ ≠ gb206 ∧ k_ ≠ gb207 ∧ k_ ≠ gb220 ∧ k_ ≠ gb221)) (HO_221002.out) (fun k_ hk => ⟨hk.1, ⟨hk.2.2.1, ⟨hk.2.2.2.1, ⟨hk.2.2.2.2.1, hk.2.2.2.2.2⟩⟩⟩⟩))).2.1 (Kd.N_F (Kd.N_mono (ok' := (fun k_ => (w.heap.size ≤ k_) ∧ k_ ≠ gb206 ∧ k_ ≠ gb207 ∧ k_ ≠ gb220 ∧ k_ ≠ gb221)) (HO_221002.out) (fun k_ hk => ⟨hk.1, ⟨hk.2.2.1, ⟨hk.2.2.2.1, ⟨hk.2.2.2.2.1, hk.2.2.2.2.2⟩⟩⟩⟩))))) (Reps.c3 (show Kd.FK k25 _ _ (⟨t215, t216, t217⟩ : S25) [.int .i64 t215, .int .i64 t216, .slice Ao29 t217.length co29] from (k25_mkF _ _ (⟨t215, t216, t217⟩ : S25) (Kd.N_reads' (Kd.N_mono (ok' := (fun k_ => (w.heap.size ≤ k_) ∧ k_ ≠ gb206 ∧ k_ ≠ gb207 ∧ k_ ≠ gb220 ∧ k_ ≠ gb221)) (HO_222002.out) (fun k_ hk => ⟨hk.1, ⟨hk.2.2.1, ⟨hk.2.2.2.1, ⟨hk.2.2.2.2.1, hk.2.2.2.2.2⟩⟩⟩⟩))).2.1 (Kd.N_F (Kd.N_mono (ok' := (fun k_ => (w.heap.size ≤ k_) ∧ k_ ≠ gb206 ∧ k_ ≠ gb207 ∧ k_ ≠ gb220 ∧ k_ ≠ gb221)) (HO_222002.out) (fun k_ hk => ⟨hk.1, ⟨hk.2.2.1, ⟨hk.2.2.2.1, ⟨hk.2.2.2.2.1, hk.2.2.2.2.2⟩⟩⟩⟩))))) (Reps.none _ _)))); intro v224 w66 ho67 hb hg_ hnew_; clear hg_ hnew_; (first | rw [← Ny223.out] at ho67 | (simp only [Int.reduceToNat] at ho67; rw [← Ny223.out] at ho67)); have n0_ := Aside0.mk (Kd.N_lower ho67 (below_size ab6_)); have n1_ := Aside0.mk (blk_below (g := gb206) (o := .cells #[.int .i64 a0_0, .int .i64 a0_1, .slice (some ad208) l0_2.length c0_2] 25 (0, 0)) (aG_ BK206.out) hb); have n2_ := Aside0.mk (blk_below (g := gb207) (o := .cells #[.int .i64 0, .int .i64 0, .slice none 0 0] 25 (0, 0)) (aG_ BK207.out) hb); have n3_ := Aside0.mk (blk_below (g := gb220) (o := .cells #[.int .i64 t209, .int .i64 t210, .slice Ao25 t211.length co25] 25 (0, 0)) (aG_ BK220.out) hb); have n4_ := Aside0.mk (blk_below (g := gb221) (o := .cells #[.int .i64 t215, .int .i64 t216, .slice Ao29 t217.length co29] 25 (0, 0)) (aG_ BK221.out) hb); have n5_ := Aside0.mk (below_step ab6_ hb); clear BK206; clear BK207; clear BK220; clear BK221; clear HB; clear HO_221002; clear HO_222002; have HO225 := n0_; have BK206 := n1_; have BK207 := n2_; have BK220 := n3_; have BK221 := n4_; have HB := n5_; clear n0_ n1_ n2_ n3_ n4_ n5_; clear hb ho67; obtain ⟨Ao68, co68, eo68⟩ := Kd.N_slice HO225.out; subst eo68; have hcz69_0 : w66.cell? ⟨gb207, 0, none⟩ = some (.int .i64 0) := (blk_cell BK207.out 0).trans rfl; have hcz69_1 : w66.cell? ⟨gb207, 1, none⟩ = some (.int .i64 0) := (blk_cell BK207.out 1).trans rfl; have hcz69_2 : w66.cell? ⟨gb207, 2, none⟩ = some (.slice none 0 0) := (blk_cell BK207.out 2).trans rfl; have hfz69_0 := blk_frozen BK207.out 0; have hfz69_1 := blk_frozen BK207.out 1; have hfz69_2 := blk_frozen BK207.out 2))
                  refine bodyPost_ret (results_cell_row rfl _ _ gb207 25 #[.int .i64 a0_0, .int .i64 0, .slice Ao68 y223.length co68] (0, 0) _ rfl (by (with_reducible repeat (first | refine blk_drewN ?_ _ | refine blk_drew ?_ | refine blk_alloc ?_ _)); refine blk_put (cs := #[.int .i64 a0_0, .int .i64 0, .slice none 0 0]) ?_ 2 _ rfl; (with_reducible repeat (first | refine blk_drewN ?_ _ | refine blk_drew ?_ | refine blk_alloc ?_ _)); refine blk_put (cs := #[.int .i64 a0_0, .int .i64 0, .slice none 0 0]) ?_ 1 _ rfl; (with_reducible repeat (first | refine blk_drewN ?_ _ | refine blk_drew ?_ | refine blk_alloc ?_ _)); refine blk_put (cs := #[.int .i64 0, .int .i64 0, .slice none 0 0]) ?_ 0 _ rfl; (with_reducible repeat (first | refine blk_drewN ?_ _ | refine blk_drew ?_ | refine blk_alloc ?_ _)); exact BK207.out) Try.underlying25 rfl (by kernel_rfl)) rfl ?_
                  exact ⟨_, ab20_, by (with_reducible repeat (first | apply Kd.N_alloc | apply Kd.N_drewN | apply Kd.N_drew)); exact Kd.N_mono (Kd.N_far (p := ⟨gb207, 2, none⟩) (Kd.N_far (p := ⟨gb207, 1, none⟩) (Kd.N_far (p := ⟨gb207, 0, none⟩) (Kd.N_mono HO225.out (fun k_ hk => (⟨hk, hk.2.2.1⟩ : _ ∧ k_ ≠ gb207))) (fun _ hk => hk.2) (.int .i64 a0_0)) (fun _ hk => hk.2) (.int .i64 0)) (fun _ hk => hk.2) (.slice Ao68 y223.length co68)) (fun _ hk => hk.1.1), ab6_⟩
              · rw [if_neg c45] at H
                have c45b0 : decide (0 ≤ t222) = false := decide_eq_false c45
                clear c45
                obtain ⟨y226, hy226⟩ : ∃ y_ : List (S25), y_ = (([(⟨t209, t210, t211⟩ : S25), (⟨t215, t216, t217⟩ : S25)] : List (S25))) := ⟨_, rfl⟩
                replace H : (some (a0_0, 0, y226)) = some (r1, r2, r3) := by first | (rw [hy226]; with_reducible exact H) | (have H2_ := (Option.bind_some _ _).symm.trans H; rw [hy226]; with_reducible exact H2_) | (have H2_ := (Option.bind_some _ _).symm.trans H; with_reducible exact H2_) | with_reducible exact H | (rw [hy226]; exact H) | exact H
                have Ny226 := Aside0.mk hy226
                clear hy226
                simp only [Option.some.injEq, Prod.mk.injEq] at H
                obtain ⟨rfl, rfl, rfl⟩ := H
                have hnb70 := NB206_207.out
                have hnc70 := NB207_206.out
                have hnb71 := NB206_220.out
                have hnc71 := NB220_206.out
                have hnb72 := NB206_221.out
                have hnc72 := NB221_206.out
                have hcz73_0 : wc.cell? ⟨gb206, 0, none⟩ = some (.int .i64 a0_0) := (blk_cell BK206.out 0).trans rfl
                have hcz73_1 : wc.cell? ⟨gb206, 1, none⟩ = some (.int .i64 a0_1) := (blk_cell BK206.out 1).trans rfl
                have hcz73_2 : wc.cell? ⟨gb206, 2, none⟩ = some (.slice (some ad208) l0_2.length c0_2) := (blk_cell BK206.out 2).trans rfl
                have hfz73_0 := blk_frozen BK206.out 0
                have hfz73_1 := blk_frozen BK206.out 1
                have hfz73_2 := blk_frozen BK206.out 2
                have hnb74 := NB220_207.out
                have hnc74 := NB207_220.out
                have hnb75 := NB220_221.out
                have hnc75 := NB221_220.out
                have hcz76_0 : wc.cell? ⟨gb220, 0, none⟩ = some (.int .i64 t209) := (blk_cell BK220.out 0).trans rfl
                have hcz76_1 : wc.cell? ⟨gb220, 1, none⟩ = some (.int .i64 t210) := (blk_cell BK220.out 1).trans rfl
                have hcz76_2 : wc.cell? ⟨gb220, 2, none⟩ = some (.slice Ao25 t211.length co25) := (blk_cell BK220.out 2).trans rfl
                have hfz76_0 := blk_frozen BK220.out 0
                have hfz76_1 := blk_frozen BK220.out 1
                have hfz76_2 := blk_frozen BK220.out 2
                have hnb77 := NB221_207.out
                have hnc77 := NB207_221.out
                have hcz78_0 : wc.cell? ⟨gb221, 0, none⟩ = some (.int .i64 t215) := (blk_cell BK221.out 0).trans rfl
                have hcz78_1 : wc.cell? ⟨gb221, 1, none⟩ = some (.int .i64 t216) := (blk_cell BK221.out 1).trans rfl
                have hcz78_2 : wc.cell? ⟨gb221, 2, none⟩ = some (.slice Ao29 t217.length co29) := (blk_cell BK221.out 2).trans rfl
                have hfz78_0 := blk_frozen BK221.out 0
                have hfz78_1 := blk_frozen BK221.out 1
                have hfz78_2 := blk_frozen BK221.out 2
                go_wp2_with (first | ((with_reducible refine gate_callee (f := 65) rfl ?_); refine goesL_ (some 39) rfl rfl Try.func65 (by kernel_rfl) rfl #[.int .i64 a0_0, .int .i64 t210, .int .i64 t216] rfl ab1_ ?_; (with_reducible refine (impl_apply.calls a0_0 t210 t216 t222 _ A44.out).mono ?_); rintro e w' ⟨rfl, ⟨nd, rfl⟩⟩; refine ⟨_, rfl, ?_⟩; (try (rw [drewN_self wc]; generalize hq_ : World.drewN wc _ = wc; have n0_ : Aside0 (Kd.N k25 25 wc w.heap.size (fun k_ => (w.heap.size ≤ k_) ∧ some k_ ≠ (.slice Ao29 t217.length co29 : Value).ownBlock ∧ k_ ≠ gb206 ∧ k_ ≠ gb207 ∧ k_ ≠ gb220 ∧ k_ ≠ gb221) (.slice Ao25 t211.length co25) t211) := ⟨by rw [← hq_]; exact (aN_ HO_221002.out)⟩; have n1_ : Aside0 (Kd.N k25 25 wc w.heap.size (fun k_ => (w.heap.size ≤ k_) ∧ some k_ ≠ (.slice Ao25 t211.length co25 : Value).ownBlock ∧ k_ ≠ gb206 ∧ k_ ≠ gb207 ∧ k_ ≠ gb220 ∧ k_ ≠ gb221) (.slice Ao29 t217.length co29) t217) := ⟨by rw [← hq_]; exact (aN_ HO_222002.out)⟩; have n2_ : Aside0 (wc.heap[gb206]? = some (.cells #[.int .i64 a0_0, .int .i64 a0_1, .slice (some ad208) l0_2.length c0_2] 25 (0, 0))) := ⟨by rw [← hq_]; exact (aG_ BK206.out)⟩; have n3_ : Aside0 (wc.heap[gb207]? = some (.cells #[.int .i64 0, .int .i64 0, .slice none 0 0] 25 (0, 0))) := ⟨by rw [← hq_]; exact (aG_ BK207.out)⟩; have n4_ : Aside0 (wc.heap[gb220]? = some (.cells #[.int .i64 t209, .int .i64 t210, .slice Ao25 t211.length co25] 25 (0, 0))) := ⟨by rw [← hq_]; exact (aG_ BK220.out)⟩; have n5_ : Aside0 (wc.heap[gb221]? = some (.cells #[.int .i64 t215, .int .i64 t216, .slice Ao29 t217.length co29] 25 (0, 0))) := ⟨by rw [← hq_]; exact (aG_ BK221.out)⟩; have n6_ : Aside0 (Below w.heap.size w wc) := ⟨by rw [← hq_]; exact ab6_⟩; clear HO_221002 HO_222002 BK206 BK207 BK220 BK221 HB hq_; have HO_221002 := n0_; have HO_222002 := n1_; have BK206 := n2_; have BK207 := n3_; have BK220 := n4_; have BK221 := n5_; have HB := n6_; clear n0_ n1_ n2_ n3_ n4_ n5_ n6_; have hczG25_0 : wc.cell? ⟨gb206, 0, none⟩ = some (.int .i64 a0_0) := (blk_cell BK206.out 0).trans rfl; have hfzG25_0 := blk_frozen BK206.out 0; have hczG25_1 : wc.cell? ⟨gb206, 1, none⟩ = some (.int .i64 a0_1) := (blk_cell BK206.out 1).trans rfl; have hfzG25_1 := blk_frozen BK206.out 1; have hczG25_2 : wc.cell? ⟨gb206, 2, none⟩ = some (.slice (some ad208) l0_2.length c0_2) := (blk_cell BK206.out 2).trans rfl; have hfzG25_2 := blk_frozen BK206.out 2; have hczG26_0 : wc.cell? ⟨gb207, 0, none⟩ = some (.int .i64 0) := (blk_cell BK207.out 0).trans rfl; have hfzG26_0 := blk_frozen BK207.out 0; have hczG26_1 : wc.cell? ⟨gb207, 1, none⟩ = some (.int .i64 0) := (blk_cell BK207.out 1).trans rfl; have hfzG26_1 := blk_frozen BK207.out 1; have hczG26_2 : wc.cell? ⟨gb207, 2, none⟩ = some (.slice none 0 0) := (blk_cell BK207.out 2).trans rfl; have hfzG26_2 := blk_frozen BK207.out 2; have hczG27_0 : wc.cell? ⟨gb220, 0, none⟩ = some (.int .i64 t209) := (blk_cell BK220.out 0).trans rfl; have hfzG27_0 := blk_frozen BK220.out 0; have hczG27_1 : wc.cell? ⟨gb220, 1, none⟩ = some (.int .i64 t210) := (blk_cell BK220.out 1).trans rfl; have hfzG27_1 := blk_frozen BK220.out 1; have hczG27_2 : wc.cell? ⟨gb220, 2, none⟩ = some (.slice Ao25 t211.length co25) := (blk_cell BK220.out 2).trans rfl; have hfzG27_2 := blk_frozen BK220.out 2; have hczG28_0 : wc.cell? ⟨gb221, 0, none⟩ = some (.int .i64 t215) := (blk_cell BK221.out 0).trans rfl; have hfzG28_0 := blk_frozen BK221.out 0; have hczG28_1 : wc.cell? ⟨gb221, 1, none⟩ = some (.int .i64 t216) := (blk_cell BK221.out 1).trans rfl; have hfzG28_1 := blk_frozen BK221.out 1; have hczG28_2 : wc.cell? ⟨gb221, 2, none⟩ = some (.slice Ao29 t217.length co29) := (blk_cell BK221.out 2).trans rfl; have hfzG28_2 := blk_frozen BK221.out 2))) | ((with_reducible refine gate_dst (N := 52) rfl ?_); refine Kd.N_lit k25 _ 25 ?hg (N' := 52) ?hd (xs := ([(⟨t209, t210, t211⟩ : S25), (⟨t215, t216, t217⟩ : S25)] : List (S25))) (inner := [.int .i64 t209, .int .i64 t210, .slice Ao25 t211.length co25, .int .i64 t215, .int .i64 t216, .slice Ao29 t217.length co29]) (ok := (fun k_ => (w.heap.size ≤ k_) ∧ k_ ≠ gb206 ∧ k_ ≠ gb207 ∧ k_ ≠ gb220 ∧ k_ ≠ gb221)) (okp := (fun k_ => (w.heap.size ≤ k_) ∧ k_ ≠ gb206 ∧ k_ ≠ gb207 ∧ k_ ≠ gb220 ∧ k_ ≠ gb221)) ?hr ?hp (fun _ hk => hk) ((show ∀ k_, wc.heap.size ≤ k_ → (fun k_ => (w.heap.size ≤ k_) ∧ k_ ≠ gb206 ∧ k_ ≠ gb207 ∧ k_ ≠ gb220 ∧ k_ ≠ gb221) k_ from fun k_ hk => ⟨(Nat.le_trans (below_size ab6_) hk), Kd.freshB (g := gb206) (o := .cells #[.int .i64 a0_0, .int .i64 a0_1, .slice (some ad208) l0_2.length c0_2] 25 (0, 0)) (aG_ BK206.out) k_ hk, Kd.freshB (g := gb207) (o := .cells #[.int .i64 0, .int .i64 0, .slice none 0 0] 25 (0, 0)) (aG_ BK207.out) k_ hk, Kd.freshB (g := gb220) (o := .cells #[.int .i64 t209, .int .i64 t210, .slice Ao25 t211.length co25] 25 (0, 0)) (aG_ BK220.out) k_ hk, Kd.freshB (g := gb221) (o := .cells #[.int .i64 t215, .int .i64 t216, .slice Ao29 t217.length co29] 25 (0, 0)) (aG_ BK221.out) k_ hk⟩) _ (Nat.le_refl _)) (Below.refl _ _) (Nat.le_refl _) (by simp) ?_; (case hd => rfl); (case hg => rfl); (case hr => first | (go_simp; done) | (go_simp; rfl)); (case hp => exact (Reps.c3 (show Kd.FK k25 _ _ (⟨t209, t210, t211⟩ : S25) [.int .i64 t209, .int .i64 t210, .slice Ao25 t211.length co25] from (k25_mkF _ _ (⟨t209, t210, t211⟩ : S25) (Kd.N_reads' (Kd.N_mono (ok' := (fun k_ => (w.heap.size ≤ k_) ∧ k_ ≠ gb206 ∧ k_ ≠ gb207 ∧ k_ ≠ gb220 ∧ k_ ≠ gb221)) (HO_221002.out) (fun k_ hk => ⟨hk.1, ⟨hk.2.2.1, ⟨hk.2.2.2.1, ⟨hk.2.2.2.2.1, hk.2.2.2.2.2⟩⟩⟩⟩))).2.1 (Kd.N_F (Kd.N_mono (ok' := (fun k_ => (w.heap.size ≤ k_) ∧ k_ ≠ gb206 ∧ k_ ≠ gb207 ∧ k_ ≠ gb220 ∧ k_ ≠ gb221)) (HO_221002.out) (fun k_ hk => ⟨hk.1, ⟨hk.2.2.1, ⟨hk.2.2.2.1, ⟨hk.2.2.2.2.1, hk.2.2.2.2.2⟩⟩⟩⟩))))) (Reps.c3 (show Kd.FK k25 _ _ (⟨t215, t216, t217⟩ : S25) [.int .i64 t215, .int .i64 t216, .slice Ao29 t217.length co29] from (k25_mkF _ _ (⟨t215, t216, t217⟩ : S25) (Kd.N_reads' (Kd.N_mono (ok' := (fun k_ => (w.heap.size ≤ k_) ∧ k_ ≠ gb206 ∧ k_ ≠ gb207 ∧ k_ ≠ gb220 ∧ k_ ≠ gb221)) (HO_222002.out) (fun k_ hk => ⟨hk.1, ⟨hk.2.2.1, ⟨hk.2.2.2.1, ⟨hk.2.2.2.2.1, hk.2.2.2.2.2⟩⟩⟩⟩))).2.1 (Kd.N_F (Kd.N_mono (ok' := (fun k_ => (w.heap.size ≤ k_) ∧ k_ ≠ gb206 ∧ k_ ≠ gb207 ∧ k_ ≠ gb220 ∧ k_ ≠ gb221)) (HO_222002.out) (fun k_ hk => ⟨hk.1, ⟨hk.2.2.1, ⟨hk.2.2.2.1, ⟨hk.2.2.2.2.1, hk.2.2.2.2.2⟩⟩⟩⟩))))) (Reps.none _ _)))); intro v227 w79 ho80 hb hg_ hnew_; clear hg_ hnew_; (first | rw [← Ny226.out] at ho80 | (simp only [Int.reduceToNat] at ho80; rw [← Ny226.out] at ho80)); have n0_ := Aside0.mk (Kd.N_lower ho80 (below_size ab6_)); have n1_ := Aside0.mk (blk_below (g := gb206) (o := .cells #[.int .i64 a0_0, .int .i64 a0_1, .slice (some ad208) l0_2.length c0_2] 25 (0, 0)) (aG_ BK206.out) hb); have n2_ := Aside0.mk (blk_below (g := gb207) (o := .cells #[.int .i64 0, .int .i64 0, .slice none 0 0] 25 (0, 0)) (aG_ BK207.out) hb); have n3_ := Aside0.mk (blk_below (g := gb220) (o := .cells #[.int .i64 t209, .int .i64 t210, .slice Ao25 t211.length co25] 25 (0, 0)) (aG_ BK220.out) hb); have n4_ := Aside0.mk (blk_below (g := gb221) (o := .cells #[.int .i64 t215, .int .i64 t216, .slice Ao29 t217.length co29] 25 (0, 0)) (aG_ BK221.out) hb); have n5_ := Aside0.mk (below_step ab6_ hb); clear BK206; clear BK207; clear BK220; clear BK221; clear HB; clear HO_221002; clear HO_222002; have HO228 := n0_; have BK206 := n1_; have BK207 := n2_; have BK220 := n3_; have BK221 := n4_; have HB := n5_; clear n0_ n1_ n2_ n3_ n4_ n5_; clear hb ho80; obtain ⟨Ao81, co81, eo81⟩ := Kd.N_slice HO228.out; subst eo81; have hcz82_0 : w79.cell? ⟨gb207, 0, none⟩ = some (.int .i64 0) := (blk_cell BK207.out 0).trans rfl; have hcz82_1 : w79.cell? ⟨gb207, 1, none⟩ = some (.int .i64 0) := (blk_cell BK207.out 1).trans rfl; have hcz82_2 : w79.cell? ⟨gb207, 2, none⟩ = some (.slice none 0 0) := (blk_cell BK207.out 2).trans rfl; have hfz82_0 := blk_frozen BK207.out 0; have hfz82_1 := blk_frozen BK207.out 1; have hfz82_2 := blk_frozen BK207.out 2))
                refine bodyPost_ret (results_cell_row rfl _ _ gb207 25 #[.int .i64 a0_0, .int .i64 0, .slice Ao81 y226.length co81] (0, 0) _ rfl (by (with_reducible repeat (first | refine blk_drewN ?_ _ | refine blk_drew ?_ | refine blk_alloc ?_ _)); refine blk_put (cs := #[.int .i64 a0_0, .int .i64 0, .slice none 0 0]) ?_ 2 _ rfl; (with_reducible repeat (first | refine blk_drewN ?_ _ | refine blk_drew ?_ | refine blk_alloc ?_ _)); refine blk_put (cs := #[.int .i64 a0_0, .int .i64 0, .slice none 0 0]) ?_ 1 _ rfl; (with_reducible repeat (first | refine blk_drewN ?_ _ | refine blk_drew ?_ | refine blk_alloc ?_ _)); refine blk_put (cs := #[.int .i64 0, .int .i64 0, .slice none 0 0]) ?_ 0 _ rfl; (with_reducible repeat (first | refine blk_drewN ?_ _ | refine blk_drew ?_ | refine blk_alloc ?_ _)); exact BK207.out) Try.underlying25 rfl (by kernel_rfl)) rfl ?_
                exact ⟨_, ab20_, by (with_reducible repeat (first | apply Kd.N_alloc | apply Kd.N_drewN | apply Kd.N_drew)); exact Kd.N_mono (Kd.N_far (p := ⟨gb207, 2, none⟩) (Kd.N_far (p := ⟨gb207, 1, none⟩) (Kd.N_far (p := ⟨gb207, 0, none⟩) (Kd.N_mono HO228.out (fun k_ hk => (⟨hk, hk.2.2.1⟩ : _ ∧ k_ ≠ gb207))) (fun _ hk => hk.2) (.int .i64 a0_0)) (fun _ hk => hk.2) (.int .i64 0)) (fun _ hk => hk.2) (.slice Ao81 y226.length co81)) (fun _ hk => hk.1.1), ab6_⟩
            · replace c43 := Bool.eq_false_iff.mpr c43
              subst c43
              have H1 : (some (a0_0, 0, (([(⟨t209, t210, t211⟩ : S25), (⟨t215, t216, t217⟩ : S25)] : List (S25))))) = some (r1, r2, r3) := by rw [if_neg (show ¬ (false = true) by decide)] at H; exact H
              clear H
              have H := H1
              clear H1
              obtain ⟨y229, hy229⟩ : ∃ y_ : List (S25), y_ = (([(⟨t209, t210, t211⟩ : S25), (⟨t215, t216, t217⟩ : S25)] : List (S25))) := ⟨_, rfl⟩
              replace H : (some (a0_0, 0, y229)) = some (r1, r2, r3) := by first | (rw [hy229]; with_reducible exact H) | (have H2_ := (Option.bind_some _ _).symm.trans H; rw [hy229]; with_reducible exact H2_) | (have H2_ := (Option.bind_some _ _).symm.trans H; with_reducible exact H2_) | with_reducible exact H | (rw [hy229]; exact H) | exact H
              have Ny229 := Aside0.mk hy229
              clear hy229
              simp only [Option.some.injEq, Prod.mk.injEq] at H
              obtain ⟨rfl, rfl, rfl⟩ := H
              have hnb83 := NB206_207.out
              have hnc83 := NB207_206.out
              have hnb84 := NB206_220.out
              have hnc84 := NB220_206.out
              have hnb85 := NB206_221.out
              have hnc85 := NB221_206.out
              have hcz86_0 : wc.cell? ⟨gb206, 0, none⟩ = some (.int .i64 a0_0) := (blk_cell BK206.out 0).trans rfl
              have hcz86_1 : wc.cell? ⟨gb206, 1, none⟩ = some (.int .i64 a0_1) := (blk_cell BK206.out 1).trans rfl
              have hcz86_2 : wc.cell? ⟨gb206, 2, none⟩ = some (.slice (some ad208) l0_2.length c0_2) := (blk_cell BK206.out 2).trans rfl
              have hfz86_0 := blk_frozen BK206.out 0
              have hfz86_1 := blk_frozen BK206.out 1
              have hfz86_2 := blk_frozen BK206.out 2
              have hnb87 := NB220_207.out
              have hnc87 := NB207_220.out
              have hnb88 := NB220_221.out
              have hnc88 := NB221_220.out
              have hcz89_0 : wc.cell? ⟨gb220, 0, none⟩ = some (.int .i64 t209) := (blk_cell BK220.out 0).trans rfl
              have hcz89_1 : wc.cell? ⟨gb220, 1, none⟩ = some (.int .i64 t210) := (blk_cell BK220.out 1).trans rfl
              have hcz89_2 : wc.cell? ⟨gb220, 2, none⟩ = some (.slice Ao25 t211.length co25) := (blk_cell BK220.out 2).trans rfl
              have hfz89_0 := blk_frozen BK220.out 0
              have hfz89_1 := blk_frozen BK220.out 1
              have hfz89_2 := blk_frozen BK220.out 2
              have hnb90 := NB221_207.out
              have hnc90 := NB207_221.out
              have hcz91_0 : wc.cell? ⟨gb221, 0, none⟩ = some (.int .i64 t215) := (blk_cell BK221.out 0).trans rfl
              have hcz91_1 : wc.cell? ⟨gb221, 1, none⟩ = some (.int .i64 t216) := (blk_cell BK221.out 1).trans rfl
              have hcz91_2 : wc.cell? ⟨gb221, 2, none⟩ = some (.slice Ao29 t217.length co29) := (blk_cell BK221.out 2).trans rfl
              have hfz91_0 := blk_frozen BK221.out 0
              have hfz91_1 := blk_frozen BK221.out 1
              have hfz91_2 := blk_frozen BK221.out 2
              go_wp2_with (first | ((with_reducible refine gate_dst (N := 52) rfl ?_); refine Kd.N_lit k25 _ 25 ?hg (N' := 52) ?hd (xs := ([(⟨t209, t210, t211⟩ : S25), (⟨t215, t216, t217⟩ : S25)] : List (S25))) (inner := [.int .i64 t209, .int .i64 t210, .slice Ao25 t211.length co25, .int .i64 t215, .int .i64 t216, .slice Ao29 t217.length co29]) (ok := (fun k_ => (w.heap.size ≤ k_) ∧ k_ ≠ gb206 ∧ k_ ≠ gb207 ∧ k_ ≠ gb220 ∧ k_ ≠ gb221)) (okp := (fun k_ => (w.heap.size ≤ k_) ∧ k_ ≠ gb206 ∧ k_ ≠ gb207 ∧ k_ ≠ gb220 ∧ k_ ≠ gb221)) ?hr ?hp (fun _ hk => hk) ((show ∀ k_, wc.heap.size ≤ k_ → (fun k_ => (w.heap.size ≤ k_) ∧ k_ ≠ gb206 ∧ k_ ≠ gb207 ∧ k_ ≠ gb220 ∧ k_ ≠ gb221) k_ from fun k_ hk => ⟨(Nat.le_trans (below_size ab6_) hk), Kd.freshB (g := gb206) (o := .cells #[.int .i64 a0_0, .int .i64 a0_1, .slice (some ad208) l0_2.length c0_2] 25 (0, 0)) (aG_ BK206.out) k_ hk, Kd.freshB (g := gb207) (o := .cells #[.int .i64 0, .int .i64 0, .slice none 0 0] 25 (0, 0)) (aG_ BK207.out) k_ hk, Kd.freshB (g := gb220) (o := .cells #[.int .i64 t209, .int .i64 t210, .slice Ao25 t211.length co25] 25 (0, 0)) (aG_ BK220.out) k_ hk, Kd.freshB (g := gb221) (o := .cells #[.int .i64 t215, .int .i64 t216, .slice Ao29 t217.length co29] 25 (0, 0)) (aG_ BK221.out) k_ hk⟩) _ (Nat.le_refl _)) (Below.refl _ _) (Nat.le_refl _) (by simp) ?_; (case hd => rfl); (case hg => rfl); (case hr => first | (go_simp; done) | (go_simp; rfl)); (case hp => exact (Reps.c3 (show Kd.FK k25 _ _ (⟨t209, t210, t211⟩ : S25) [.int .i64 t209, .int .i64 t210, .slice Ao25 t211.length co25] from (k25_mkF _ _ (⟨t209, t210, t211⟩ : S25) (Kd.N_reads' (Kd.N_mono (ok' := (fun k_ => (w.heap.size ≤ k_) ∧ k_ ≠ gb206 ∧ k_ ≠ gb207 ∧ k_ ≠ gb220 ∧ k_ ≠ gb221)) (HO_221002.out) (fun k_ hk => ⟨hk.1, ⟨hk.2.2.1, ⟨hk.2.2.2.1, ⟨hk.2.2.2.2.1, hk.2.2.2.2.2⟩⟩⟩⟩))).2.1 (Kd.N_F (Kd.N_mono (ok' := (fun k_ => (w.heap.size ≤ k_) ∧ k_ ≠ gb206 ∧ k_ ≠ gb207 ∧ k_ ≠ gb220 ∧ k_ ≠ gb221)) (HO_221002.out) (fun k_ hk => ⟨hk.1, ⟨hk.2.2.1, ⟨hk.2.2.2.1, ⟨hk.2.2.2.2.1, hk.2.2.2.2.2⟩⟩⟩⟩))))) (Reps.c3 (show Kd.FK k25 _ _ (⟨t215, t216, t217⟩ : S25) [.int .i64 t215, .int .i64 t216, .slice Ao29 t217.length co29] from (k25_mkF _ _ (⟨t215, t216, t217⟩ : S25) (Kd.N_reads' (Kd.N_mono (ok' := (fun k_ => (w.heap.size ≤ k_) ∧ k_ ≠ gb206 ∧ k_ ≠ gb207 ∧ k_ ≠ gb220 ∧ k_ ≠ gb221)) (HO_222002.out) (fun k_ hk => ⟨hk.1, ⟨hk.2.2.1, ⟨hk.2.2.2.1, ⟨hk.2.2.2.2.1, hk.2.2.2.2.2⟩⟩⟩⟩))).2.1 (Kd.N_F (Kd.N_mono (ok' := (fun k_ => (w.heap.size ≤ k_) ∧ k_ ≠ gb206 ∧ k_ ≠ gb207 ∧ k_ ≠ gb220 ∧ k_ ≠ gb221)) (HO_222002.out) (fun k_ hk => ⟨hk.1, ⟨hk.2.2.1, ⟨hk.2.2.2.1, ⟨hk.2.2.2.2.1, hk.2.2.2.2.2⟩⟩⟩⟩))))) (Reps.none _ _)))); intro v230 w92 ho93 hb hg_ hnew_; clear hg_ hnew_; (first | rw [← Ny229.out] at ho93 | (simp only [Int.reduceToNat] at ho93; rw [← Ny229.out] at ho93)); have n0_ := Aside0.mk (Kd.N_lower ho93 (below_size ab6_)); have n1_ := Aside0.mk (blk_below (g := gb206) (o := .cells #[.int .i64 a0_0, .int .i64 a0_1, .slice (some ad208) l0_2.length c0_2] 25 (0, 0)) (aG_ BK206.out) hb); have n2_ := Aside0.mk (blk_below (g := gb207) (o := .cells #[.int .i64 0, .int .i64 0, .slice none 0 0] 25 (0, 0)) (aG_ BK207.out) hb); have n3_ := Aside0.mk (blk_below (g := gb220) (o := .cells #[.int .i64 t209, .int .i64 t210, .slice Ao25 t211.length co25] 25 (0, 0)) (aG_ BK220.out) hb); have n4_ := Aside0.mk (blk_below (g := gb221) (o := .cells #[.int .i64 t215, .int .i64 t216, .slice Ao29 t217.length co29] 25 (0, 0)) (aG_ BK221.out) hb); have n5_ := Aside0.mk (below_step ab6_ hb); clear BK206; clear BK207; clear BK220; clear BK221; clear HB; clear HO_221002; clear HO_222002; have HO231 := n0_; have BK206 := n1_; have BK207 := n2_; have BK220 := n3_; have BK221 := n4_; have HB := n5_; clear n0_ n1_ n2_ n3_ n4_ n5_; clear hb ho93; obtain ⟨Ao94, co94, eo94⟩ := Kd.N_slice HO231.out; subst eo94; have hcz95_0 : w92.cell? ⟨gb207, 0, none⟩ = some (.int .i64 0) := (blk_cell BK207.out 0).trans rfl; have hcz95_1 : w92.cell? ⟨gb207, 1, none⟩ = some (.int .i64 0) := (blk_cell BK207.out 1).trans rfl; have hcz95_2 : w92.cell? ⟨gb207, 2, none⟩ = some (.slice none 0 0) := (blk_cell BK207.out 2).trans rfl; have hfz95_0 := blk_frozen BK207.out 0; have hfz95_1 := blk_frozen BK207.out 1; have hfz95_2 := blk_frozen BK207.out 2))
              refine bodyPost_ret (results_cell_row rfl _ _ gb207 25 #[.int .i64 a0_0, .int .i64 0, .slice Ao94 y229.length co94] (0, 0) _ rfl (by (with_reducible repeat (first | refine blk_drewN ?_ _ | refine blk_drew ?_ | refine blk_alloc ?_ _)); refine blk_put (cs := #[.int .i64 a0_0, .int .i64 0, .slice none 0 0]) ?_ 2 _ rfl; (with_reducible repeat (first | refine blk_drewN ?_ _ | refine blk_drew ?_ | refine blk_alloc ?_ _)); refine blk_put (cs := #[.int .i64 a0_0, .int .i64 0, .slice none 0 0]) ?_ 1 _ rfl; (with_reducible repeat (first | refine blk_drewN ?_ _ | refine blk_drew ?_ | refine blk_alloc ?_ _)); refine blk_put (cs := #[.int .i64 0, .int .i64 0, .slice none 0 0]) ?_ 0 _ rfl; (with_reducible repeat (first | refine blk_drewN ?_ _ | refine blk_drew ?_ | refine blk_alloc ?_ _)); exact BK207.out) Try.underlying25 rfl (by kernel_rfl)) rfl ?_
              exact ⟨_, ab20_, by (with_reducible repeat (first | apply Kd.N_alloc | apply Kd.N_drewN | apply Kd.N_drew)); exact Kd.N_mono (Kd.N_far (p := ⟨gb207, 2, none⟩) (Kd.N_far (p := ⟨gb207, 1, none⟩) (Kd.N_far (p := ⟨gb207, 0, none⟩) (Kd.N_mono HO231.out (fun k_ hk => (⟨hk, hk.2.2.1⟩ : _ ∧ k_ ≠ gb207))) (fun _ hk => hk.2) (.int .i64 a0_0)) (fun _ hk => hk.2) (.int .i64 0)) (fun _ hk => hk.2) (.slice Ao94 y229.length co94)) (fun _ hk => hk.1.1), ab6_⟩
      · rw [if_neg c10] at H
        exact absurd H (by simp)
    · rw [if_neg c8] at H
      exact absurd H (by simp)

end Go.Proofs.Ytajifknepdikbaa.PA

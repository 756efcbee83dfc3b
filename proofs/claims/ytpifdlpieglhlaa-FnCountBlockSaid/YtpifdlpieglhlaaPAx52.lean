-- made by a program of this session (wip/myprint.py over the kit's print)
import Derived.Test.YtpifdlpieglhlaaV
import Derived.Test.YtpifdlpieglhlaaPAx0
import Derived.Test.YtpifdlpieglhlaaPAx1
import Derived.Test.YtpifdlpieglhlaaPAx46
import Derived.Test.YtpifdlpieglhlaaPAx47
import Derived.Test.YtpifdlpieglhlaaPAx49
import Derived.Test.YtpifdlpieglhlaaPAx50
import Derived.Test.YtpifdlpieglhlaaPAx51
namespace Go.Proofs.Ytpifdlpieglhlaa.PA
open Go.RowKit Go.Proofs.YtpifdlpieglhlaaW.PrintWords Go.Proofs.YtpifdlpieglhlaaW.PrintLast Go.Proofs.YtpifdlpieglhlaaW.PrintMore
attribute [local go_sem] max2_int min2_int max_two min_two max_three min_three max_four min_four   -- for this text's walks alone
set_option linter.unusedVariables false
set_option linter.unusedSimpArgs false

/-! ### spec_l91Expr: function 51 -/
theorem spec_l91Expr.mono_l : ∀ k, (∀ y0 y1 y2, LeO (spec_l91Expr.f k y0 y1 y2) (spec_l91Expr.f (k + 1) y0 y1 y2)) ∧ (∀ y0 y1 y2 y3, LeO (spec_l91Expr.j0 k y0 y1 y2 y3) (spec_l91Expr.j0 (k + 1) y0 y1 y2 y3))
  | 0 => ⟨fun _ _ _ r h => by simp [spec_l91Expr.f] at h, fun _ _ _ _ r h => by simp [spec_l91Expr.j0] at h⟩
  | k + 1 => by
    obtain ⟨ih0, ih1⟩ := spec_l91Expr.mono_l k
    refine ⟨?_, ?_⟩
    · intro y0 y1 y2
      unfold spec_l91Expr.f
      repeat' first
      | (with_reducible exact ih0 _ _ _)
      | (with_reducible exact ih1 _ _ _ _)
      | (with_reducible exact spec_l6Rd_pick.mono _ _ _ _)
      | (with_reducible exact spec_l91Leaf.mono _ _ _)
      | (with_reducible exact spec_l91Op.mono _ _ _)
      | (with_reducible exact LeO.refl _)
      | (with_reducible exact LeO.none _)
      | (with_reducible refine LeO.ite ?_ ?_)
      | (with_reducible refine LeO.bind ?_ (fun _ => ?_))
      | exact ih0 _ _ _
      | exact ih1 _ _ _ _
      | exact spec_l6Rd_pick.mono _ _ _ _
      | exact spec_l91Leaf.mono _ _ _
      | exact spec_l91Op.mono _ _ _
      | exact LeO.none _
      | refine LeO.ite ?_ ?_
      | refine LeO.bind ?_ (fun _ => ?_)
    · intro y0 y1 y2 y3
      unfold spec_l91Expr.j0
      repeat' first
      | (with_reducible exact ih0 _ _ _)
      | (with_reducible exact ih1 _ _ _ _)
      | (with_reducible exact spec_l6Rd_pick.mono _ _ _ _)
      | (with_reducible exact spec_l91Leaf.mono _ _ _)
      | (with_reducible exact spec_l91Op.mono _ _ _)
      | (with_reducible exact LeO.refl _)
      | (with_reducible exact LeO.none _)
      | (with_reducible refine LeO.ite ?_ ?_)
      | (with_reducible refine LeO.bind ?_ (fun _ => ?_))
      | exact ih0 _ _ _
      | exact ih1 _ _ _ _
      | exact spec_l6Rd_pick.mono _ _ _ _
      | exact spec_l91Leaf.mono _ _ _
      | exact spec_l91Op.mono _ _ _
      | exact LeO.none _
      | refine LeO.ite ?_ ?_
      | refine LeO.bind ?_ (fun _ => ?_)
theorem spec_l91Expr.mono : ∀ a0 a1 a2 k, LeO (spec_l91Expr.f k a0 a1 a2) (spec_l91Expr.f (k + 1) a0 a1 a2) := by
  intro a0 a1 a2 k
  obtain ⟨ih0, ih1⟩ := spec_l91Expr.mono_l k
  exact ih0 a0 a1 a2
def spec_l91Expr.T5 : Bool × List (List Nat × List Nat) := (true, [([], []), ([], []), ([], []), ([], []), ([3], [3]), ([2, 4], [2, 4]), ([0, 1, 5, 5], [0, 1, 5]), ([6, 6, 0, 1, 2, 3, 4, 5, 6], [6])])
def spec_l91Expr.B5 : List Nat := [0, 0, 0, 0, 8, 28, 63, 127]
theorem spec_l91Expr.tab5 : rtab .any (opsOf Try.f51 5) = spec_l91Expr.T5 := by kernel_rfl
theorem spec_l91Expr.bits5 : waitsOk spec_l91Expr.T5.2 spec_l91Expr.B5 = true := by kernel_rfl
set_option maxHeartbeats 8000000 in
set_option maxRecDepth 100000 in
theorem spec_l91Expr.calls (k : Nat) : ∀ (g : Nat) (s0_0 : List Int) (s0_1 : Int) (a1 : Int) (r1 : Int) (r2 : Int) (r3 : List (S34)) (r4 : Int) (w0 w : World) (hI : IsS61 w0 w g s0_0 s0_1) (hB : Below w0.heap.size w0 w) (h : spec_l91Expr.f k s0_0 s0_1 a1 = some (r1, r2, r3, r4)),
    Calls Try.prog 51 #[.pointer (some ⟨g, 0, none⟩), .int .i64 a1] w fun e w' => ∃ v2_ : Value, e = .returned (.agg #[.int .i64 r1, .int .i64 r2, v2_]) ∧ Kd.N k34 34 w' w.heap.size (fun k_ => (w.heap.size ≤ k_)) v2_ r3 ∧ IsS61 w0 w' g s0_0 r4 ∧ Below w0.heap.size w0 w' ∧ KeepBut w w' g none := by
  induction k using Nat.strongRecOn with
  | _ k ih =>
  intro g s0_0 s0_1 a1 r1 r2 r3 r4 w0 w hI hB h
  cases k with
  | zero => exact absurd h (by simp [spec_l91Expr.f])
  | succ k =>
  simp only [spec_l91Expr.f] at h
  have hu34 := Try.underlying34
  have HI0 := Aside0.mk hI
  have HK := Aside0.mk (KeepBut.refl w g none)
  have HL := Aside0.mk hB.size
  clear hI
  have HW0 := Aside0.mk hB.size
  have HB := Aside0.mk hB
  clear hB
  have H : (if a1 < 2 then (spec_l91Expr.j0 k a1 true s0_0 s0_1) else ((spec_l6Rd_pick.f k s0_0 s0_1 3).bind fun bt257 => (spec_l91Expr.j0 k a1 (bt257.1 == 0) s0_0 bt257.2))) = some (r1, r2, r3, r4) := h
  clear h
  have HC3 := Aside0.mk H
  clear H
  go_enter Try.func51, Try.ntmps51
  go_upto_region 1 with (first | ((with_reducible refine gate_dst (N := 4) rfl ?_); refine box_event ?hg (N := 4) ?hd (cs := #[.int .i64 0, .int .i64 0, .slice none 0 0]) (t := 34) ?hr ?_; (case hd => rfl); (case hg => rfl); (case hr => first | (go_simp; done) | (go_simp; rfl)); intro gb256 hg w4 hbox hb; have n0_ := Aside0.mk (IsS61.below ab4_ hb); have n1_ := Aside0.mk (KeepBut.trans ab3_ (KeepBut.of_below hb g none) (.inl rfl)); have n2_ := Aside0.mk (below_step ab5_ hb); have n3_ := Aside0.mk (hbox); have n4_ := Aside0.mk ((by rw [hg]; exact (keep_size (w := w) (g := g) (row := none) ab3_) : w.heap.size ≤ gb256)); have n5_ := Aside0.mk ((Nat.le_trans HW0.out (by rw [hg]; exact (keep_size (w := w) (g := g) (row := none) ab3_) : w.heap.size ≤ gb256) : w0.heap.size ≤ gb256)); have n6_ := Aside0.mk ((by rw [hg]; exact Nat.ne_of_lt (IsS61.lt (show IsS61 w0 _ g s0_0 s0_1 from by repeat (first | (with_reducible first | exact HI0.out | apply IsS61.alloc | apply IsS61.drewN | apply IsS61.drew | apply IsS61.set_1) | exact HI0.out))) : g ≠ gb256)); have n7_ := Aside0.mk ((by rw [hg]; exact Nat.ne_of_gt (IsS61.lt (show IsS61 w0 _ g s0_0 s0_1 from by repeat (first | (with_reducible first | exact HI0.out | apply IsS61.alloc | apply IsS61.drewN | apply IsS61.drew | apply IsS61.set_1) | exact HI0.out))) : gb256 ≠ g)); clear HI0; clear HK; clear HB; have HI0 := n0_; have HK := n1_; have HB := n2_; have BK256 := n3_; have GW256 := n4_; have GE256 := n5_; have NB0_256 := n6_; have NB256_0 := n7_; clear n0_ n1_ n2_ n3_ n4_ n5_ n6_ n7_; clear hb hbox hg))
  (try simp only [Act.put, List.setIfInBounds_toArray, List.set_cons_zero, List.set_cons_succ])
  go_cut [13] (fun v13 wc => ∃ (kq : Nat) (x13_2 : Bool) (x1001_2 : Int), v13 = .bool x13_2 ∧ Aside0 (spec_l91Expr.j0 kq a1 x13_2 s0_0 x1001_2 = some (r1, r2, r3, r4)) ∧ Aside0 (kq ≤ k) ∧ Aside0 (wc.heap[gb256]? = some (.cells #[.int .i64 0, .int .i64 0, (.slice none 0 0)] 34 (0, 0))) ∧ Aside0 (IsS61 w0 wc g s0_0 x1001_2) ∧ Aside0 (KeepBut w wc g none) ∧ Aside0 (Below w0.heap.size w0 wc))
  case first =>
    have H := HC3.out
    clear HC3
    by_cases c5 : a1 < 2
    · rw [if_pos c5] at H
      have c5b0 : decide (a1 < 2) = true := decide_eq_true c5
      clear c5
      (first | rw [c5b0] | (simp only [i64_w, i32_w]; rw [c5b0]) | skip)
      have H' := Aside0.mk H
      clear H
      go_wp2
      go_meet
      case rel => exact ⟨_, (true), (s0_1), (by first | rfl | (simp; done) | (simp [*]; done)), H', ⟨by first | omega | exact Nat.le_refl _⟩, ⟨by (with_reducible repeat (first | refine blk_drewN ?_ _ | refine blk_drew ?_ | refine blk_alloc ?_ _)); exact BK256.out⟩, ⟨ab31_⟩, ⟨ab14_⟩, ⟨ab39_⟩⟩
    · rw [if_neg c5] at H
      have c5b0 : decide (a1 < 2) = false := decide_eq_false c5
      clear c5
      (first | rw [c5b0] | (simp only [i64_w, i32_w]; rw [c5b0]) | skip)
      replace H := Option.bind_eq_some_iff.mp H
      obtain ⟨⟨t257, t258⟩, A60, H⟩ := H
      replace H : (spec_l91Expr.j0 k a1 (t257 == 0) s0_0 t258) = some (r1, r2, r3, r4) := H
      have A6 := Aside0.mk A60
      clear A60
      have H' := Aside0.mk H
      clear H
      go_wp2_with (first | (go_at_call 30; (with_reducible refine (spec_l6Rd_pick.calls k g s0_0 s0_1 3 t257 t258 w0 _ ?side1 ?side2 A6.out).mono ?_); (case side1 => repeat (first | (with_reducible first | exact HI0.out | apply IsS61.alloc | apply IsS61.drewN | apply IsS61.drew | apply IsS61.set_1 | refine IsS61.far ?_ NB0_256.out _) | exact HI0.out)); (case side2 => repeat (first | (with_reducible first | exact HB.out | apply below_alloc | apply pw_below_drewN | apply below_drew1 | refine below_set ?_ (IsS61.ge HI0.out) | refine below_set ?_ GE256.out) | exact HB.out)); rintro e w7 ⟨rfl, hi, hb, hk⟩; have n0_ := Aside0.mk (KeepBut.blk hk (g' := gb256) (o := .cells #[.int .i64 0, .int .i64 0, .slice none 0 0] 34 (0, 0)) (aG_ BK256.out) NB256_0.out (by simp)); have n1_ := Aside0.mk (KeepBut.trans ab14_ hk (.inl rfl)); have n2_ := Aside0.mk (hb); have n3_ := Aside0.mk (hi); clear BK256; clear HK; clear HB; clear HI0; have BK256 := n0_; have HK := n1_; have HB := n2_; have HI0 := n3_; clear n0_ n1_ n2_ n3_; (try clear hb); (try clear hb2); (try clear hk); (try clear hi)))
      go_meet
      case rel => exact ⟨_, ((t257 == 0)), (t258), (by first | rfl | (simp; done) | (simp [*]; done)), H', ⟨by first | omega | exact Nat.le_refl _⟩, ⟨by (with_reducible repeat (first | refine blk_drewN ?_ _ | refine blk_drew ?_ | refine blk_alloc ?_ _)); exact BK256.out⟩, ⟨ab31_⟩, ⟨ab14_⟩, ⟨ab39_⟩⟩
  case rest =>
    clear HC3
    try clear p2
    try clear c5
    try clear c5b0
    obtain ⟨kq, x13_2, x1001_2, rfl, HA, HJ2, BK256, HI0, HK, HB⟩ := hcut
    cases kq with
    | zero => exact absurd HA.out (by simp [spec_l91Expr.j0])
    | succ kj2 =>
      have H := HA.out
      clear HA
      simp only [spec_l91Expr.j0] at H
      by_cases c8 : x13_2 = true
      · subst c8
        have H1 : ((spec_l91Leaf.f kj2 s0_0 x1001_2).bind fun bt259 => (some (bt259.1, bt259.2.1, bt259.2.2.1, bt259.2.2.2))) = some (r1, r2, r3, r4) := by rw [if_pos rfl] at H; exact H
        clear H
        have H := H1
        clear H1
        replace H := Option.bind_eq_some_iff.mp H
        obtain ⟨⟨t259, t260, t261, t264⟩, A90, H⟩ := H
        replace H : (some (t259, t260, t261, t264)) = some (r1, r2, r3, r4) := H
        have A9 := Aside0.mk A90
        clear A90
        simp only [Option.some.injEq, Prod.mk.injEq] at H
        obtain ⟨rfl, rfl, rfl, rfl⟩ := H
        go_wp2_with (first | ((with_reducible refine gate_callee (f := 39) rfl ?_); refine goesL_ (some 15) rfl rfl Try.func39 (by kernel_rfl) rfl #[.pointer (some ⟨g, 0, none⟩)] rfl ab2_ ?_; (with_reducible refine (spec_l91Leaf.calls kj2 g s0_0 x1001_2 t259 t260 t261 t264 w0 _ ?side1 ?side2 A9.out).mono ?_); (case side1 => repeat (first | (with_reducible first | exact HI0.out | apply IsS61.alloc | apply IsS61.drewN | apply IsS61.drew | apply IsS61.set_1 | refine IsS61.far ?_ NB0_256.out _) | exact HI0.out)); (case side2 => repeat (first | (with_reducible first | exact HB.out | apply below_alloc | apply pw_below_drewN | apply below_drew1 | refine below_set ?_ (IsS61.ge HI0.out) | refine below_set ?_ GE256.out) | exact HB.out)); rintro e w10 ⟨v262, rfl, ho0, hi, hb, hk⟩; refine ⟨_, rfl, ?_⟩; have n0_ := Aside0.mk (KeepBut.blk hk (g' := gb256) (o := .cells #[.int .i64 0, .int .i64 0, .slice none 0 0] 34 (0, 0)) (aG_ BK256.out) NB256_0.out (by simp)); have n1_ := Aside0.mk (Kd.N_lower (Kd.N_mono (ok' := fun k_ => (w.heap.size ≤ k_) ∧ k_ ≠ gb256 ∧ k_ ≠ g) (Kd.R_N (Kd.R_bound ho0)) (fun k_ hk_ => ⟨(Nat.le_trans (keep_size (w := w) (g := g) (row := none) ab14_) hk_.2.1), (Kd.freshB (g := gb256) (o := .cells #[.int .i64 0, .int .i64 0, .slice none 0 0] 34 (0, 0)) (aG_ BK256.out) k_ hk_.2.1), (IsS61.fresh ab31_ k_ hk_.2.1)⟩)) (keep_size (w := w) (g := g) (row := none) ab14_)); have n2_ := Aside0.mk (KeepBut.trans ab14_ hk (.inl rfl)); have n3_ := Aside0.mk (hb); have n4_ := Aside0.mk (hi); clear BK256; clear HK; clear HB; clear HI0; have BK256 := n0_; have HO263 := n1_; have HK := n2_; have HB := n3_; have HI0 := n4_; clear n0_ n1_ n2_ n3_ n4_; (try clear hb); (try clear hb2); (try clear hk); (try clear hi); (try clear ho0); have hnb11 := NB256_0.out; have hnc11 := NB0_256.out; have hcz12_0 : w10.cell? ⟨gb256, 0, none⟩ = some (.int .i64 0) := (blk_cell BK256.out 0).trans rfl; have hcz12_1 : w10.cell? ⟨gb256, 1, none⟩ = some (.int .i64 0) := (blk_cell BK256.out 1).trans rfl; have hcz12_2 : w10.cell? ⟨gb256, 2, none⟩ = some (.slice none 0 0) := (blk_cell BK256.out 2).trans rfl; have hfz12_0 := blk_frozen BK256.out 0; have hfz12_1 := blk_frozen BK256.out 1; have hfz12_2 := blk_frozen BK256.out 2; obtain ⟨Ao13, co13, eo13⟩ := Kd.N_slice HO263.out; subst eo13))
        refine bodyPost_ret (results_cell_row rfl _ _ gb256 34 #[.int .i64 t259, .int .i64 t260, .slice Ao13 t261.length co13] (0, 0) _ rfl (by (with_reducible repeat (first | refine blk_drewN ?_ _ | refine blk_drew ?_ | refine blk_alloc ?_ _)); refine blk_put (cs := #[.int .i64 t259, .int .i64 t260, .slice none 0 0]) ?_ 2 _ rfl; (with_reducible repeat (first | refine blk_drewN ?_ _ | refine blk_drew ?_ | refine blk_alloc ?_ _)); refine blk_put (cs := #[.int .i64 t259, .int .i64 0, .slice none 0 0]) ?_ 1 _ rfl; (with_reducible repeat (first | refine blk_drewN ?_ _ | refine blk_drew ?_ | refine blk_alloc ?_ _)); refine blk_put (cs := #[.int .i64 0, .int .i64 0, .slice none 0 0]) ?_ 0 _ rfl; (with_reducible repeat (first | refine blk_drewN ?_ _ | refine blk_drew ?_ | refine blk_alloc ?_ _)); exact BK256.out) Try.underlying34 rfl (by kernel_rfl)) rfl ?_
        exact ⟨_, ab8_, by (with_reducible repeat (first | apply Kd.N_alloc | apply Kd.N_drewN | apply Kd.N_drew)); exact Kd.N_mono (Kd.N_far (p := ⟨gb256, 2, none⟩) (Kd.N_far (p := ⟨gb256, 1, none⟩) (Kd.N_far (p := ⟨gb256, 0, none⟩) (Kd.N_mono HO263.out (fun k_ hk => (⟨hk, hk.2.1⟩ : _ ∧ k_ ≠ gb256))) (fun _ hk => hk.2) (.int .i64 t259)) (fun _ hk => hk.2) (.int .i64 t260)) (fun _ hk => hk.2) (.slice Ao13 t261.length co13)) (fun _ hk => hk.1.1), ab31_, ab39_, ab14_⟩
      · replace c8 := Bool.eq_false_iff.mpr c8
        subst c8
        have H1 : ((spec_l91Op.f kj2 s0_0 x1001_2).bind fun bt265 => ((spec_l91Expr.f kj2 s0_0 bt265.2 (wrap64 (a1 - 1))).bind fun bt267 => ((spec_l91Expr.f kj2 s0_0 bt267.2.2.2 (wrap64 (a1 - 1))).bind fun bt274 => ((spec_l4Both.f bt265.1 bt267.1 bt267.2.1 bt267.2.2.1 bt274.1 bt274.2.1 bt274.2.2.1).bind fun bt280 => (some (bt280.1, bt280.2.1, bt280.2.2, bt274.2.2.2)))))) = some (r1, r2, r3, r4) := by rw [if_neg (show ¬ (false = true) by decide)] at H; exact H
        clear H
        have H := H1
        clear H1
        replace H := Option.bind_eq_some_iff.mp H
        obtain ⟨⟨t265, t266⟩, A140, H⟩ := H
        replace H : ((spec_l91Expr.f kj2 s0_0 t266 (wrap64 (a1 - 1))).bind fun bt267 => ((spec_l91Expr.f kj2 s0_0 bt267.2.2.2 (wrap64 (a1 - 1))).bind fun bt274 => ((spec_l4Both.f t265 bt267.1 bt267.2.1 bt267.2.2.1 bt274.1 bt274.2.1 bt274.2.2.1).bind fun bt280 => (some (bt280.1, bt280.2.1, bt280.2.2, bt274.2.2.2))))) = some (r1, r2, r3, r4) := H
        have A14 := Aside0.mk A140
        clear A140
        replace H := Option.bind_eq_some_iff.mp H
        obtain ⟨⟨t267, t268, t269, t272⟩, A150, H⟩ := H
        replace H : ((spec_l91Expr.f kj2 s0_0 t272 (wrap64 (a1 - 1))).bind fun bt274 => ((spec_l4Both.f t265 t267 t268 t269 bt274.1 bt274.2.1 bt274.2.2.1).bind fun bt280 => (some (bt280.1, bt280.2.1, bt280.2.2, bt274.2.2.2)))) = some (r1, r2, r3, r4) := H
        have A15 := Aside0.mk A150
        clear A150
        replace H := Option.bind_eq_some_iff.mp H
        obtain ⟨⟨t274, t275, t276, t279⟩, A160, H⟩ := H
        replace H : ((spec_l4Both.f t265 t267 t268 t269 t274 t275 t276).bind fun bt280 => (some (bt280.1, bt280.2.1, bt280.2.2, t279))) = some (r1, r2, r3, r4) := H
        have A16 := Aside0.mk A160
        clear A160
        replace H := Option.bind_eq_some_iff.mp H
        obtain ⟨⟨t280, t281, t282⟩, A170, H⟩ := H
        replace H : (some (t280, t281, t282, t279)) = some (r1, r2, r3, r4) := H
        have A17 := Aside0.mk A170
        clear A170
        simp only [Option.some.injEq, Prod.mk.injEq] at H
        obtain ⟨rfl, rfl, rfl, rfl⟩ := H
        try go_wp2_with (first | ((with_reducible refine gate_callee (f := 58) rfl ?_); refine goesL_ (some 17) rfl rfl Try.func58 (by kernel_rfl) rfl #[.pointer (some ⟨g, 0, none⟩)] rfl ab2_ ?_; (with_reducible refine (spec_l91Op.calls kj2 g s0_0 x1001_2 t265 t266 w0 _ ?side1 ?side2 A14.out).mono ?_); (case side1 => repeat (first | (with_reducible first | exact HI0.out | apply IsS61.alloc | apply IsS61.drewN | apply IsS61.drew | apply IsS61.set_1 | refine IsS61.far ?_ NB0_256.out _) | exact HI0.out)); (case side2 => repeat (first | (with_reducible first | exact HB.out | apply below_alloc | apply pw_below_drewN | apply below_drew1 | refine below_set ?_ (IsS61.ge HI0.out) | refine below_set ?_ GE256.out) | exact HB.out)); rintro e w18 ⟨rfl, hi, hb, hk⟩; refine ⟨_, rfl, ?_⟩; have n0_ := Aside0.mk (KeepBut.blk hk (g' := gb256) (o := .cells #[.int .i64 0, .int .i64 0, .slice none 0 0] 34 (0, 0)) (aG_ BK256.out) NB256_0.out (by simp)); have n1_ := Aside0.mk (KeepBut.trans ab14_ hk (.inl rfl)); have n2_ := Aside0.mk (hb); have n3_ := Aside0.mk (hi); clear BK256; clear HK; clear HB; clear HI0; have BK256 := n0_; have HK := n1_; have HB := n2_; have HI0 := n3_; clear n0_ n1_ n2_ n3_; (try clear hb); (try clear hb2); (try clear hk); (try clear hi)) | ((with_reducible refine gate_callee (f := 51) rfl ?_); refine goesL_ (some 21) rfl rfl Try.func51 (by kernel_rfl) rfl #[.pointer (some ⟨g, 0, none⟩), .int .i64 (wrap64 (a1 - 1))] rfl ab2_ ?_; (with_reducible refine (ih kj2 (by have := HJ2.out; omega) g s0_0 t266 (wrap64 (a1 - 1)) t267 t268 t269 t272 w0 _ ?side1 ?side2 A15.out).mono ?_); (case side1 => repeat (first | (with_reducible first | exact HI0.out | apply IsS61.alloc | apply IsS61.drewN | apply IsS61.drew | apply IsS61.set_1 | refine IsS61.far ?_ NB0_256.out _) | exact HI0.out)); (case side2 => repeat (first | (with_reducible first | exact HB.out | apply below_alloc | apply pw_below_drewN | apply below_drew1 | refine below_set ?_ (IsS61.ge HI0.out) | refine below_set ?_ GE256.out) | exact HB.out)); rintro e w19 ⟨v270, rfl, ho0, hi, hb, hk⟩; refine ⟨_, rfl, ?_⟩; have n0_ := Aside0.mk (KeepBut.blk hk (g' := gb256) (o := .cells #[.int .i64 0, .int .i64 0, .slice none 0 0] 34 (0, 0)) (aG_ BK256.out) NB256_0.out (by simp)); have n1_ := Aside0.mk (Kd.N_lower (Kd.N_mono (ok' := fun k_ => (w.heap.size ≤ k_) ∧ k_ ≠ gb256 ∧ k_ ≠ g) ho0 (fun k_ hk_ => ⟨(Nat.le_trans (keep_size (w := w) (g := g) (row := none) ab14_) hk_), (Kd.freshB (g := gb256) (o := .cells #[.int .i64 0, .int .i64 0, .slice none 0 0] 34 (0, 0)) (aG_ BK256.out) k_ hk_), (IsS61.fresh ab31_ k_ hk_)⟩)) (keep_size (w := w) (g := g) (row := none) ab14_)); have n2_ := Aside0.mk (KeepBut.trans ab14_ hk (.inl rfl)); have n3_ := Aside0.mk (hb); have n4_ := Aside0.mk (hi); clear BK256; clear HK; clear HB; clear HI0; have BK256 := n0_; have HO271 := n1_; have HK := n2_; have HB := n3_; have HI0 := n4_; clear n0_ n1_ n2_ n3_ n4_; (try clear hb); (try clear hb2); (try clear hk); (try clear hi); (try clear ho0)) | ((with_reducible refine gate_dst (N := 6) rfl ?_); refine box_event ?hg (N := 6) ?hd (cs := #[.int .i64 0, .int .i64 0, .slice none 0 0]) (t := 34) ?hr ?_; (case hd => rfl); (case hg => rfl); (case hr => first | (go_simp; done) | (go_simp; rfl)); intro gb273 hg w20 hbox hb; have n0_ := Aside0.mk (Kd.N_below (Kd.N_elderB (aN_ HO271.out) gb273 (Nat.le_of_eq hg.symm)) hb); have n1_ := Aside0.mk (blk_below (g := gb256) (o := .cells #[.int .i64 0, .int .i64 0, .slice none 0 0] 34 (0, 0)) (aG_ BK256.out) hb); have n2_ := Aside0.mk (IsS61.below ab31_ hb); have n3_ := Aside0.mk (KeepBut.trans ab14_ (KeepBut.of_below hb g none) (.inl rfl)); have n4_ := Aside0.mk (below_step ab39_ hb); have n5_ := Aside0.mk (hbox); have n6_ := Aside0.mk ((by rw [hg]; exact (keep_size (w := w) (g := g) (row := none) ab14_) : w.heap.size ≤ gb273)); have n7_ := Aside0.mk ((Nat.le_trans HW0.out (by rw [hg]; exact (keep_size (w := w) (g := g) (row := none) ab14_) : w.heap.size ≤ gb273) : w0.heap.size ≤ gb273)); have n8_ := Aside0.mk ((by rw [hg]; exact Nat.ne_of_lt (blk_lt (g := gb256) (o := .cells #[.int .i64 0, .int .i64 0, .slice none 0 0] 34 (0, 0)) (aG_ BK256.out)) : gb256 ≠ gb273)); have n9_ := Aside0.mk ((by rw [hg]; exact Nat.ne_of_gt (blk_lt (g := gb256) (o := .cells #[.int .i64 0, .int .i64 0, .slice none 0 0] 34 (0, 0)) (aG_ BK256.out)) : gb273 ≠ gb256)); have n10_ := Aside0.mk ((by rw [hg]; exact Nat.ne_of_lt (IsS61.lt (show IsS61 w0 _ g s0_0 t272 from by repeat (first | (with_reducible first | exact HI0.out | apply IsS61.alloc | apply IsS61.drewN | apply IsS61.drew | apply IsS61.set_1 | refine IsS61.far ?_ NB0_256.out _) | exact HI0.out))) : g ≠ gb273)); have n11_ := Aside0.mk ((by rw [hg]; exact Nat.ne_of_gt (IsS61.lt (show IsS61 w0 _ g s0_0 t272 from by repeat (first | (with_reducible first | exact HI0.out | apply IsS61.alloc | apply IsS61.drewN | apply IsS61.drew | apply IsS61.set_1 | refine IsS61.far ?_ NB0_256.out _) | exact HI0.out))) : gb273 ≠ g)); clear HO271; clear BK256; clear HI0; clear HK; clear HB; have HO271 := n0_; have BK256 := n1_; have HI0 := n2_; have HK := n3_; have HB := n4_; have BK273 := n5_; have GW273 := n6_; have GE273 := n7_; have NB256_273 := n8_; have NB273_256 := n9_; have NB0_273 := n10_; have NB273_0 := n11_; clear n0_ n1_ n2_ n3_ n4_ n5_ n6_ n7_ n8_ n9_ n10_ n11_; clear hb hbox hg; have hnb21 := NB273_256.out; have hnc21 := NB256_273.out; have hnb22 := NB273_0.out; have hnc22 := NB0_273.out; have hcz23_0 : w20.cell? ⟨gb273, 0, none⟩ = some (.int .i64 0) := (blk_cell BK273.out 0).trans rfl; have hcz23_1 : w20.cell? ⟨gb273, 1, none⟩ = some (.int .i64 0) := (blk_cell BK273.out 1).trans rfl; have hcz23_2 : w20.cell? ⟨gb273, 2, none⟩ = some (.slice none 0 0) := (blk_cell BK273.out 2).trans rfl; have hfz23_0 := blk_frozen BK273.out 0; have hfz23_1 := blk_frozen BK273.out 1; have hfz23_2 := blk_frozen BK273.out 2; obtain ⟨Ao24, co24, eo24⟩ := Kd.N_slice HO271.out; subst eo24))
        have n0_ : Aside0 (Kd.N k34 34 (((w20.setCell ⟨gb273, 0, none⟩ (.int .i64 t267)).setCell ⟨gb273, 1, none⟩ (.int .i64 t268)).setCell ⟨gb273, 2, none⟩ (.slice Ao24 t269.length co24)) w.heap.size (fun k_ => (w.heap.size ≤ k_) ∧ k_ ≠ gb256 ∧ k_ ≠ g ∧ k_ ≠ gb273) (.slice Ao24 t269.length co24) t269) := ⟨by (with_reducible repeat (first | apply Kd.N_alloc | apply Kd.N_drewN | apply Kd.N_drew)); exact Kd.N_mono (Kd.N_far (p := ⟨gb273, 2, none⟩) (Kd.N_far (p := ⟨gb273, 1, none⟩) (Kd.N_far (p := ⟨gb273, 0, none⟩) (Kd.N_mono HO271.out (fun k_ hk => (⟨hk, hk.2⟩ : _ ∧ k_ ≠ gb273))) (fun _ hk => hk.2) (.int .i64 t267)) (fun _ hk => hk.2) (.int .i64 t268)) (fun _ hk => hk.2) (.slice Ao24 t269.length co24)) (fun _ hk => ⟨hk.1.1.1, ⟨hk.1.1.2.1, ⟨hk.1.1.2.2, hk.1.2⟩⟩⟩)⟩
        have n1_ : Aside0 ((((w20.setCell ⟨gb273, 0, none⟩ (.int .i64 t267)).setCell ⟨gb273, 1, none⟩ (.int .i64 t268)).setCell ⟨gb273, 2, none⟩ (.slice Ao24 t269.length co24)).heap[gb256]? = some (.cells #[.int .i64 0, .int .i64 0, .slice none 0 0] 34 (0, 0))) := ⟨by (with_reducible repeat (first | refine blk_drewN ?_ _ | refine blk_drew ?_ | refine blk_alloc ?_ _)); refine blk_far ?_ NB256_273.out _; (with_reducible repeat (first | refine blk_drewN ?_ _ | refine blk_drew ?_ | refine blk_alloc ?_ _)); refine blk_far ?_ NB256_273.out _; (with_reducible repeat (first | refine blk_drewN ?_ _ | refine blk_drew ?_ | refine blk_alloc ?_ _)); refine blk_far ?_ NB256_273.out _; (with_reducible repeat (first | refine blk_drewN ?_ _ | refine blk_drew ?_ | refine blk_alloc ?_ _)); exact BK256.out⟩
        have n2_ : Aside0 ((((w20.setCell ⟨gb273, 0, none⟩ (.int .i64 t267)).setCell ⟨gb273, 1, none⟩ (.int .i64 t268)).setCell ⟨gb273, 2, none⟩ (.slice Ao24 t269.length co24)).heap[gb273]? = some (.cells #[.int .i64 t267, .int .i64 t268, .slice Ao24 t269.length co24] 34 (0, 0))) := ⟨by (with_reducible repeat (first | refine blk_drewN ?_ _ | refine blk_drew ?_ | refine blk_alloc ?_ _)); refine blk_put (cs := #[.int .i64 t267, .int .i64 t268, .slice none 0 0]) ?_ 2 _ rfl; (with_reducible repeat (first | refine blk_drewN ?_ _ | refine blk_drew ?_ | refine blk_alloc ?_ _)); refine blk_put (cs := #[.int .i64 t267, .int .i64 0, .slice none 0 0]) ?_ 1 _ rfl; (with_reducible repeat (first | refine blk_drewN ?_ _ | refine blk_drew ?_ | refine blk_alloc ?_ _)); refine blk_put (cs := #[.int .i64 0, .int .i64 0, .slice none 0 0]) ?_ 0 _ rfl; (with_reducible repeat (first | refine blk_drewN ?_ _ | refine blk_drew ?_ | refine blk_alloc ?_ _)); exact BK273.out⟩
        have n3_ : Aside0 (IsS61 w0 (((w20.setCell ⟨gb273, 0, none⟩ (.int .i64 t267)).setCell ⟨gb273, 1, none⟩ (.int .i64 t268)).setCell ⟨gb273, 2, none⟩ (.slice Ao24 t269.length co24)) g s0_0 t272) := ⟨ab32_⟩
        have n4_ : Aside0 (KeepBut w (((w20.setCell ⟨gb273, 0, none⟩ (.int .i64 t267)).setCell ⟨gb273, 1, none⟩ (.int .i64 t268)).setCell ⟨gb273, 2, none⟩ (.slice Ao24 t269.length co24)) g none) := ⟨ab21_⟩
        have n5_ : Aside0 (Below w0.heap.size w0 (((w20.setCell ⟨gb273, 0, none⟩ (.int .i64 t267)).setCell ⟨gb273, 1, none⟩ (.int .i64 t268)).setCell ⟨gb273, 2, none⟩ (.slice Ao24 t269.length co24))) := ⟨ab42_⟩
        (try clear HO271)
        (try clear BK256)
        (try clear BK273)
        (try clear HI0)
        (try clear HK)
        (try clear HB)
        generalize (((w20.setCell ⟨gb273, 0, none⟩ (.int .i64 t267)).setCell ⟨gb273, 1, none⟩ (.int .i64 t268)).setCell ⟨gb273, 2, none⟩ (.slice Ao24 t269.length co24)) = w25 at n0_ n1_ n2_ n3_ n4_ n5_ ⊢
        have HO271 := n0_
        have BK256 := n1_
        have BK273 := n2_
        have HI0 := n3_
        have HK := n4_
        have HB := n5_
        clear n0_ n1_ n2_ n3_ n4_ n5_
        have n0_ := Aside0.mk (Kd.N_drew HO271.out)
        have n1_ := Aside0.mk (blk_drew BK256.out)
        have n2_ := Aside0.mk (blk_drew BK273.out)
        have n3_ := Aside0.mk (IsS61.drew HI0.out)
        have n4_ := Aside0.mk (keep_drew HK.out)
        have n5_ := Aside0.mk (below_drew1 HB.out)
        clear HO271
        clear BK256
        clear BK273
        clear HI0
        clear HK
        clear HB
        have HO271 := n0_
        have BK256 := n1_
        have BK273 := n2_
        have HI0 := n3_
        have HK := n4_
        have HB := n5_
        clear n0_ n1_ n2_ n3_ n4_ n5_
        refine start_ (n := 8) (S := fun w' => w'.cell? ⟨gb273, 0, none⟩ = some (.int .i64 t267) ∧ w'.cell? ⟨gb273, 1, none⟩ = some (.int .i64 t268) ∧ w'.cell? ⟨gb273, 2, none⟩ = some (.slice Ao24 t269.length co24)) (ds := []) #[false, false, false, false, false, false, false, false] (by kernel_rfl) rfl rfl ⟨(blk_cell BK273.out 0).trans rfl, (blk_cell BK273.out 1).trans rfl, (blk_cell BK273.out 2).trans rfl⟩ (fun hHeld => ?_); refine with_tabW spec_l91Expr.tab5 spec_l91Expr.bits5 (fun HT_ HW_ => ?_)
        generalize w25.drew = w26 at HO271 BK256 BK273 HI0 HK HB hHeld ⊢
        refine pure_ (i := 0) (N := some 22) (v := ?_) (a' := ?_) #[true, false, false, false, false, false, false, false] rfl rfl (any_of HT_.out (by kernel_rfl)) (fun _ _ _ h => h) (Or.inl ⟨by rfl, ?_⟩) ?_ ?_
        rotate_left
        · intro w'
          go_simp
          with_reducible rfl
        rotate_left
        · simp only [Act.put, List.setIfInBounds_toArray, List.set_cons_zero, List.set_cons_succ, i64_w, i32_w]
          rfl
        refine pure_ (i := 2) (N := some 24) (v := ?_) (a' := ?_) #[true, false, true, false, false, false, false, false] rfl rfl (any_of HT_.out (by kernel_rfl)) (fun _ _ _ h => h) (Or.inl ⟨by rfl, ?_⟩) ?_ ?_
        rotate_left
        · intro w'
          go_simp
          with_reducible rfl
        rotate_left
        · simp only [Act.put, List.setIfInBounds_toArray, List.set_cons_zero, List.set_cons_succ, i64_w, i32_w]
          rfl
        refine pure_ (i := 3) (N := some 25) (v := ?_) (a' := ?_) #[true, false, true, true, false, false, false, false] rfl rfl (any_of HT_.out (by kernel_rfl)) (fun _ _ _ h => h) (Or.inl ⟨by rfl, ?_⟩) ?_ ?_
        rotate_left
        · intro w'
          go_simp
          with_reducible rfl
        rotate_left
        · simp only [Act.put, List.setIfInBounds_toArray, List.set_cons_zero, List.set_cons_succ, i64_w, i32_w]
          rfl
        refine pure_ (i := 4) (N := some 26) (v := ?_) (a' := ?_) #[true, false, true, true, true, false, false, false] rfl rfl (any_of HT_.out (by kernel_rfl)) (fun _ _ _ h => h) (Or.inl ⟨by rfl, ?_⟩) ?_ ?_
        rotate_left
        · intro w'
          go_simp
          with_reducible rfl
        rotate_left
        · simp only [Act.put, List.setIfInBounds_toArray, List.set_cons_zero, List.set_cons_succ, i64_w, i32_w]
          rfl
        refine take_ (i := 1) (N := some 23) (v := ?_) (a' := ?_) #[true, true, true, true, true, false, false, false] rfl rfl (take_ofW HT_.out HW_.out (by kernel_rfl)) (fun _ _ _ h => h) (Or.inl ⟨by rfl, ?_⟩) hHeld ?_ ?_
        rotate_left
        · rintro w' ⟨s0, s1, s2⟩
          go_simp
          with_reducible rfl
        rotate_left
        · simp only [Act.put, List.setIfInBounds_toArray, List.set_cons_zero, List.set_cons_succ, i64_w, i32_w]
          rfl
        refine one_ (i := 5) (N := some 27) #[true, true, true, true, true, true, false, false] rfl rfl (one_of HT_.out (by kernel_rfl)) (by decide) (fun K hK => ?_)
        refine goes_ Try.func51 (by kernel_rfl) rfl #[.pointer (some ⟨g, 0, none⟩), .int .i64 (wrap64 (a1 - 1))] (by rfl) rfl rfl ab2_ ?_
        with_reducible refine (ih kj2 (by have := HJ2.out; omega) g s0_0 t272 (wrap64 (a1 - 1)) t274 t275 t276 t279 w0 _ ?side1 ?side2 A16.out).mono ?_
        (case side1 => repeat (first | (with_reducible first | exact HI0.out | apply IsS61.alloc | apply IsS61.drewN | apply IsS61.drew | apply IsS61.set_1 | refine IsS61.far ?_ NB0_256.out _ | refine IsS61.far ?_ NB0_273.out _) | exact HI0.out))
        (case side2 => repeat (first | (with_reducible first | exact HB.out | apply below_alloc | apply pw_below_drewN | apply below_drew1 | refine below_set ?_ (IsS61.ge HI0.out) | refine below_set ?_ GE256.out | refine below_set ?_ GE273.out) | exact HB.out))
        rintro e w27 ⟨v277, rfl, ho0, hi, hb, hk⟩
        refine ⟨_, rfl, ?_⟩
        have n0_ := Aside0.mk (KeepBut.blk hk (g' := gb256) (o := .cells #[.int .i64 0, .int .i64 0, .slice none 0 0] 34 (0, 0)) (aG_ BK256.out) NB256_0.out (by simp))
        have n1_ := Aside0.mk (Kd.N_mono (Kd.N_told (Kd.N_oldK (Kd.N_mono (ok := fun k_ => (((w.heap.size ≤ k_)) ∧ (k_ ≠ gb256 ∧ (k_ ≠ g ∧ k_ ≠ gb273)))) (aN_ HO271.out) (fun k_ hk_ => (⟨hk_, hk_.2.2.1⟩ : _ ∧ k_ ≠ g))) hk) (by first | exact Kd.N_base ho0 | exact Kd.N_base (Kd.R_N ho0))) (fun _ h_ => h_.1))
        have n2_ := Aside0.mk (KeepBut.blk hk (g' := gb273) (o := .cells #[.int .i64 t267, .int .i64 t268, .slice Ao24 t269.length co24] 34 (0, 0)) (aG_ BK273.out) NB273_0.out (by simp))
        have n3_ := Aside0.mk (Kd.N_lower (Kd.N_mono (ok' := fun k_ => (w.heap.size ≤ k_) ∧ some k_ ≠ (.slice Ao24 t269.length co24 : Value).ownBlock ∧ k_ ≠ gb256 ∧ k_ ≠ gb273 ∧ k_ ≠ g) ho0 (fun k_ hk_ => ⟨(Nat.le_trans (keep_size (w := w) (g := g) (row := none) ab21_) hk_), (Kd.fresh' (Kd.N_lt (aN_ HO271.out)) k_ hk_), (Kd.freshB (g := gb256) (o := .cells #[.int .i64 0, .int .i64 0, .slice none 0 0] 34 (0, 0)) (aG_ BK256.out) k_ hk_), (Kd.freshB (g := gb273) (o := .cells #[.int .i64 t267, .int .i64 t268, .slice Ao24 t269.length co24] 34 (0, 0)) (aG_ BK273.out) k_ hk_), (IsS61.fresh ab32_ k_ hk_)⟩)) (keep_size (w := w) (g := g) (row := none) ab21_))
        have n4_ := Aside0.mk (KeepBut.trans ab21_ hk (.inl rfl))
        have n5_ := Aside0.mk (hb)
        have n6_ := Aside0.mk (hi)
        clear BK256
        clear HO271
        clear BK273
        clear HK
        clear HB
        clear HI0
        have BK256 := n0_
        have HO271 := n1_
        have BK273 := n2_
        have HO278 := n3_
        have HK := n4_
        have HB := n5_
        have HI0 := n6_
        clear n0_ n1_ n2_ n3_ n4_ n5_ n6_
        (try clear hb)
        (try clear hb2)
        (try clear hk)
        (try clear hi)
        (try clear ho0)
        obtain ⟨Ao28, co28, eo28⟩ := Kd.N_slice HO278.out
        (first | subst eo28 | (injection eo28 with f1_ f2_ f3_; have f4_ := f1_.symm; have f5_ := f3_.symm; clear f1_ f2_ f3_; subst f4_; subst f5_))
        refine hK.out _ _ ⟨(blk_cell BK273.out 0).trans rfl, (blk_cell BK273.out 1).trans rfl, (blk_cell BK273.out 2).trans rfl⟩ (fun hHeld => ?_)
        clear hK K
        refine norm_ (a' := ?_) ?_ ?_
        rotate_left
        · show Act.put _ (some 27) _ = _
          simp only [Act.put, List.setIfInBounds_toArray, List.set_cons_zero, List.set_cons_succ, i64_w, i32_w]
          rfl
        refine one_ (i := 6) (N := some 28) #[true, true, true, true, true, true, true, false] rfl rfl (one_of HT_.out (by kernel_rfl)) (by decide) (fun K hK => ?_)
        refine goes_ Try.func59 (by kernel_rfl) rfl #[.int .i64 t265, .agg #[.int .i64 t267, .int .i64 t268, .slice Ao24 t269.length co24], .agg #[.int .i64 t274, .int .i64 t275, .slice Ao28 t276.length co28]] (by rfl) rfl rfl ab2_ ?_
        with_reducible refine (spec_l4Both.calls t265 t267 t268 (fun k_ => (((w.heap.size ≤ k_) ∧ (k_ ≠ gb256 ∧ (k_ ≠ g ∧ k_ ≠ gb273))) ∧ some k_ ≠ (.slice Ao28 t276.length co28 : Value).ownBlock)) _ _ t269 t274 t275 (fun k_ => ((w.heap.size ≤ k_) ∧ (some k_ ≠ (.slice Ao24 t269.length co24 : Value).ownBlock ∧ (k_ ≠ gb256 ∧ (k_ ≠ gb273 ∧ k_ ≠ g))))) _ _ t276 t280 t281 t282 _ ?side1 ?side2 A17.out).mono ?_
        (case side1 => exact Kd.N_V (HO271.out))
        (case side2 => exact Kd.N_V (HO278.out))
        rintro e w29 ⟨v283, rfl, ho0, hb⟩
        refine ⟨_, rfl, ?_⟩
        have n0_ := Aside0.mk (Kd.N_elder' (aN_ HO271.out) (by first | exact Kd.N_base ho0 | exact Kd.N_base (Kd.R_N ho0)) hb)
        have n1_ := Aside0.mk (Kd.N_elder' (aN_ HO278.out) (by first | exact Kd.N_base ho0 | exact Kd.N_base (Kd.R_N ho0)) hb)
        have n2_ := Aside0.mk (Kd.N_lower (Kd.N_mono (ok' := fun k_ => (w.heap.size ≤ k_) ∧ k_ ≠ gb256 ∧ k_ ≠ gb273 ∧ k_ ≠ g) ho0 (fun k_ hk_ => ⟨Or.elim hk_ (fun hs_ => Or.elim hs_ (fun hs_ => hs_.1.1) (fun hs_ => hs_.1)) (fun hn_ => (Nat.le_trans (keep_size (w := w) (g := g) (row := none) ab21_) hn_)), Or.elim hk_ (fun hs_ => Or.elim hs_ (fun hs_ => hs_.1.2.1) (fun hs_ => hs_.2.2.1)) (fun hn_ => (Kd.freshB (g := gb256) (o := .cells #[.int .i64 0, .int .i64 0, .slice none 0 0] 34 (0, 0)) (aG_ BK256.out) k_ hn_)), Or.elim hk_ (fun hs_ => Or.elim hs_ (fun hs_ => hs_.1.2.2.2) (fun hs_ => hs_.2.2.2.1)) (fun hn_ => (Kd.freshB (g := gb273) (o := .cells #[.int .i64 t267, .int .i64 t268, .slice Ao24 t269.length co24] 34 (0, 0)) (aG_ BK273.out) k_ hn_)), Or.elim hk_ (fun hs_ => Or.elim hs_ (fun hs_ => hs_.1.2.2.1) (fun hs_ => hs_.2.2.2.2)) (fun hn_ => (IsS61.fresh ab32_ k_ hn_))⟩)) (keep_size (w := w) (g := g) (row := none) ab21_))
        have n3_ := Aside0.mk (blk_below (g := gb256) (o := .cells #[.int .i64 0, .int .i64 0, .slice none 0 0] 34 (0, 0)) (aG_ BK256.out) hb)
        have n4_ := Aside0.mk (IsS61.below ab32_ hb)
        have n5_ := Aside0.mk (blk_below (g := gb273) (o := .cells #[.int .i64 t267, .int .i64 t268, .slice Ao24 t269.length co24] 34 (0, 0)) (aG_ BK273.out) hb)
        have n6_ := Aside0.mk (KeepBut.trans ab21_ (KeepBut.of_below hb g none) (.inl rfl))
        have n7_ := Aside0.mk (below_step ab42_ hb)
        clear HO271
        clear HO278
        clear BK256
        clear HI0
        clear BK273
        clear HK
        clear HB
        have HO271 := n0_
        have HO278 := n1_
        have HO284 := n2_
        have BK256 := n3_
        have HI0 := n4_
        have BK273 := n5_
        have HK := n6_
        have HB := n7_
        clear n0_ n1_ n2_ n3_ n4_ n5_ n6_ n7_
        (try clear hb)
        (try clear hb2)
        (try clear hk)
        (try clear hi)
        (try clear ho0)
        obtain ⟨Ao32, co32, eo32⟩ := Kd.N_slice HO284.out
        (first | subst eo32 | (injection eo32 with f1_ f2_ f3_; have f4_ := f1_.symm; have f5_ := f3_.symm; clear f1_ f2_ f3_; subst f4_; subst f5_))
        refine hK.out _ _ ⟨(blk_cell BK273.out 0).trans rfl, (blk_cell BK273.out 1).trans rfl, (blk_cell BK273.out 2).trans rfl⟩ (fun hHeld => ?_)
        clear hK K
        refine norm_ (a' := ?_) ?_ ?_
        rotate_left
        · show Act.put _ (some 28) _ = _
          simp only [Act.put, List.setIfInBounds_toArray, List.set_cons_zero, List.set_cons_succ, i64_w, i32_w]
          rfl
        refine one_ (i := 7) (N := none) #[true, true, true, true, true, true, true, true] rfl rfl (one_of HT_.out (by kernel_rfl)) (by decide) (fun K hK => ?_)
        have hs30 : w29.cell? ⟨gb256, 0, none⟩ = some (.int .i64 0) := (blk_cell BK256.out 0).trans rfl
        have hfs30 := blk_frozen BK256.out 0
        have hns30_1 := NB273_256.out
        have hms30_1 := NB256_273.out
        have hs31 : w29.cell? ⟨gb256, 1, none⟩ = some (.int .i64 0) := (blk_cell BK256.out 1).trans rfl
        have hfs31 := blk_frozen BK256.out 1
        have hns31_1 := NB273_256.out
        have hms31_1 := NB256_273.out
        have hs33 : w29.cell? ⟨gb256, 2, none⟩ = some (.slice none 0 0) := (blk_cell BK256.out 2).trans rfl
        have hfs33 := blk_frozen BK256.out 2
        have hns33_1 := NB273_256.out
        have hms33_1 := NB256_273.out
        refine skip_ (w1 := ?_) (by rfl) rfl ?_ ?_
        rotate_left
        · go_simp
          rfl
        refine hK.out _ _ ⟨((cell_far (p := ⟨gb256, _, none⟩) NB273_256.out _).trans (((cell_far (p := ⟨gb256, _, none⟩) NB273_256.out _).trans (((cell_far (p := ⟨gb256, _, none⟩) NB273_256.out _).trans (hHeld.1)))))), ((cell_far (p := ⟨gb256, _, none⟩) NB273_256.out _).trans (((cell_far (p := ⟨gb256, _, none⟩) NB273_256.out _).trans (((cell_far (p := ⟨gb256, _, none⟩) NB273_256.out _).trans (hHeld.2.1)))))), ((cell_far (p := ⟨gb256, _, none⟩) NB273_256.out _).trans (((cell_far (p := ⟨gb256, _, none⟩) NB273_256.out _).trans (((cell_far (p := ⟨gb256, _, none⟩) NB273_256.out _).trans (hHeld.2.2))))))⟩ (fun hHeld => ?_)
        clear hK K
        refine done_ (done_of HT_.out (by kernel_rfl)) ?_
        try go_wp2
        refine bodyPost_ret (results_cell_row rfl _ _ gb256 34 #[.int .i64 t280, .int .i64 t281, .slice Ao32 t282.length co32] (0, 0) _ rfl (by (with_reducible repeat (first | refine blk_drewN ?_ _ | refine blk_drew ?_ | refine blk_alloc ?_ _)); refine blk_put (cs := #[.int .i64 t280, .int .i64 t281, .slice none 0 0]) ?_ 2 _ rfl; (with_reducible repeat (first | refine blk_drewN ?_ _ | refine blk_drew ?_ | refine blk_alloc ?_ _)); refine blk_put (cs := #[.int .i64 t280, .int .i64 0, .slice none 0 0]) ?_ 1 _ rfl; (with_reducible repeat (first | refine blk_drewN ?_ _ | refine blk_drew ?_ | refine blk_alloc ?_ _)); refine blk_put (cs := #[.int .i64 0, .int .i64 0, .slice none 0 0]) ?_ 0 _ rfl; (with_reducible repeat (first | refine blk_drewN ?_ _ | refine blk_drew ?_ | refine blk_alloc ?_ _)); exact BK256.out) Try.underlying34 rfl (by kernel_rfl)) rfl ?_
        exact ⟨_, ab8_, by (with_reducible repeat (first | apply Kd.N_alloc | apply Kd.N_drewN | apply Kd.N_drew)); exact Kd.N_mono (Kd.N_far (p := ⟨gb256, 2, none⟩) (Kd.N_far (p := ⟨gb256, 1, none⟩) (Kd.N_far (p := ⟨gb256, 0, none⟩) (Kd.N_mono HO284.out (fun k_ hk => (⟨hk, hk.2.1⟩ : _ ∧ k_ ≠ gb256))) (fun _ hk => hk.2) (.int .i64 t280)) (fun _ hk => hk.2) (.int .i64 t281)) (fun _ hk => hk.2) (.slice Ao32 t282.length co32)) (fun _ hk => hk.1.1), ab32_, ab42_, ab21_⟩

end Go.Proofs.Ytpifdlpieglhlaa.PA

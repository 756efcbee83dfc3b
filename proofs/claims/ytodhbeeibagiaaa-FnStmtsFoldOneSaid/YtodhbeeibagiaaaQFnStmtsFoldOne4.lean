/- Part 5 of the proof of FnStmtsFoldOne. -/
import Derived.Test.YtodhbeeibagiaaaQFnStmtsFoldOne3
set_option maxHeartbeats 8000000
set_option maxRecDepth 100000
namespace Go.Proofs.Ytodhbeeibagiaaa.PA
open Go.RowKit Go.Proofs.YtodhbeeibagiaaaW.PrintWords Go.Proofs.YtodhbeeibagiaaaW.PrintLast Go.Proofs.YtodhbeeibagiaaaW.PrintMore
attribute [local go_sem] max2_int min2_int max_two min_two max_three min_three max_four min_four
set_option linter.unusedVariables false
set_option linter.unusedSimpArgs false
theorem impl_stmtsFold.mono_l : ∀ k, (∀ y0, LeO (impl_stmtsFold.f k y0) (impl_stmtsFold.f (k + 1) y0)) ∧ (∀ y0 y1 y2 y3, LeO (impl_stmtsFold.l0 k y0 y1 y2 y3) (impl_stmtsFold.l0 (k + 1) y0 y1 y2 y3)) ∧ (∀ y0 y1 y2 y3 y4 y5 y6 y7 y8 y9 y10 y11 y12 y13, LeO (impl_stmtsFold.j1 k y0 y1 y2 y3 y4 y5 y6 y7 y8 y9 y10 y11 y12 y13) (impl_stmtsFold.j1 (k + 1) y0 y1 y2 y3 y4 y5 y6 y7 y8 y9 y10 y11 y12 y13)) ∧ (∀ y0 y1 y2 y3 y4 y5 y6 y7 y8 y9 y10 y11 y12 y13, LeO (impl_stmtsFold.j2 k y0 y1 y2 y3 y4 y5 y6 y7 y8 y9 y10 y11 y12 y13) (impl_stmtsFold.j2 (k + 1) y0 y1 y2 y3 y4 y5 y6 y7 y8 y9 y10 y11 y12 y13))
 | 0 => ⟨fun _ r h => by simp [impl_stmtsFold.f] at h, fun _ _ _ _ r h => by simp [impl_stmtsFold.l0] at h, fun _ _ _ _ _ _ _ _ _ _ _ _ _ _ r h => by simp [impl_stmtsFold.j1] at h, fun _ _ _ _ _ _ _ _ _ _ _ _ _ _ r h => by simp [impl_stmtsFold.j2] at h⟩
 | k + 1 => by
  obtain ⟨ih0, ih1, ih2, ih3⟩ := impl_stmtsFold.mono_l k
  refine ⟨?_, ?_, ?_, ?_⟩
  ·intro y0
   unfold impl_stmtsFold.f
   repeat' first
   | (with_reducible exact ih0 _)
   | (with_reducible exact ih1 _ _ _ _)
   | (with_reducible exact ih2 _ _ _ _ _ _ _ _ _ _ _ _ _ _)
   | (with_reducible exact ih3 _ _ _ _ _ _ _ _ _ _ _ _ _ _)
   | (with_reducible exact impl_exprFold.mono _ _ _ _)
   | (with_reducible exact LeO.refl _)
   | (with_reducible exact LeO.none _)
   | (with_reducible refine LeO.ite ?_ ?_)
   | (with_reducible refine LeO.bind ?_ (fun _ => ?_))
  ·intro y0 y1 y2 y3
   unfold impl_stmtsFold.l0
   repeat' first
   | (with_reducible exact ih0 _)
   | (with_reducible exact ih1 _ _ _ _)
   | (with_reducible exact ih2 _ _ _ _ _ _ _ _ _ _ _ _ _ _)
   | (with_reducible exact ih3 _ _ _ _ _ _ _ _ _ _ _ _ _ _)
   | (with_reducible exact impl_exprFold.mono _ _ _ _)
   | (with_reducible exact LeO.refl _)
   | (with_reducible exact LeO.none _)
   | (with_reducible refine LeO.ite ?_ ?_)
   | (with_reducible refine LeO.bind ?_ (fun _ => ?_))
  ·intro y0 y1 y2 y3 y4 y5 y6 y7 y8 y9 y10 y11 y12 y13
   unfold impl_stmtsFold.j1
   repeat' first
   | (with_reducible exact ih0 _)
   | (with_reducible exact ih1 _ _ _ _)
   | (with_reducible exact ih2 _ _ _ _ _ _ _ _ _ _ _ _ _ _)
   | (with_reducible exact ih3 _ _ _ _ _ _ _ _ _ _ _ _ _ _)
   | (with_reducible exact impl_exprFold.mono _ _ _ _)
   | (with_reducible exact LeO.refl _)
   | (with_reducible exact LeO.none _)
   | (with_reducible refine LeO.ite ?_ ?_)
   | (with_reducible refine LeO.bind ?_ (fun _ => ?_))
  ·intro y0 y1 y2 y3 y4 y5 y6 y7 y8 y9 y10 y11 y12 y13
   unfold impl_stmtsFold.j2
   repeat' first
   | (with_reducible exact ih0 _)
   | (with_reducible exact ih1 _ _ _ _)
   | (with_reducible exact ih2 _ _ _ _ _ _ _ _ _ _ _ _ _ _)
   | (with_reducible exact ih3 _ _ _ _ _ _ _ _ _ _ _ _ _ _)
   | (with_reducible exact impl_exprFold.mono _ _ _ _)
   | (with_reducible exact LeO.refl _)
   | (with_reducible exact LeO.none _)
   | (with_reducible refine LeO.ite ?_ ?_)
   | (with_reducible refine LeO.bind ?_ (fun _ => ?_))
theorem impl_stmtsFold.mono : ∀ a0 k, LeO (impl_stmtsFold.f k a0) (impl_stmtsFold.f (k + 1) a0) := by
 intro a0 k
 obtain ⟨ih0, ih1, ih2, ih3⟩ := impl_stmtsFold.mono_l k
 exact ih0 a0
def impl_stmtsFold.T5 : Bool × List (List Nat × List Nat) := (true, [([], []), ([0], [0]), ([1], [1]), ([], []), ([3], [3]), ([4, 2], [4]), ([], []), ([6], [6]), ([7, 5], [7]), ([0, 1, 2, 3, 4, 6, 7], []), ([9, 2, 8, 0, 1, 2, 3, 4, 6, 7], [2, 9]), ([0, 1, 2, 3, 4, 5, 6, 7, 9, 10], []), ([11, 5, 10, 0, 1, 2, 3, 4, 5, 6, 7, 9, 10], [5, 11]), ([0, 1, 2, 3, 4, 5, 6, 7, 8, 9, 10, 11, 12], []), ([13, 8, 12, 0, 1, 2, 3, 4, 5, 6, 7, 8, 9, 10, 11, 12], [8, 13])])
def impl_stmtsFold.B5 : List Nat := [0, 1, 3, 0, 8, 31, 0, 64, 255, 223, 1023, 2047, 4095, 8191, 16383]
theorem impl_stmtsFold.tab5 : rtab .any (opsOf Try.f46 5) = impl_stmtsFold.T5 := by kernel_rfl
theorem impl_stmtsFold.bits5 : waitsOk impl_stmtsFold.T5.2 impl_stmtsFold.B5 = true := by kernel_rfl
theorem impl_stmtsFold.calls (k : Nat) : ∀ (A0 : Option Addr) (c0 : Nat) (l0 : List (S35)) (r : List (S35)) (w : World) (hr0 : Kd.C k35 w A0 l0.length l0) (hc0 : l0.length ≤ c0) (h : impl_stmtsFold.f k l0 = some r),
  Calls Try.prog 46 #[.slice A0 l0.length c0] w fun e w' => ∃ v0_ : Value, e = .returned (v0_) ∧ Kd.N k35 35 w' w.heap.size (fun k_ => (w.heap.size ≤ k_)) v0_ r ∧ Below w.heap.size w w' := by
 induction k using Nat.strongRecOn with
 | _ k ih =>
 intro A0 c0 l0 r w hr0 hc0 h
 cases k with
 | zero => exact absurd h (by simp [impl_stmtsFold.f])
 | succ k =>
 simp only [impl_stmtsFold.f] at h
 have hu35 := Try.underlying35
 have hu32 := Try.underlying32
 have HR0 := am hr0
 have HC0 := am hc0
 clear hr0 hc0
 have HB := am (Below.refl w.heap.size w)
 have H : (impl_stmtsFold.l0 k ([] : List (S35)) l0 (l0.length : Int) 0) = some r := h
 clear h
 have H' := am H
 clear H
 go_enter Try.func46, Try.ntmps46
 go_wp2
 go_loopg [3, 9] k (fun kq v3 v9 w' => ∃ (x3_1 : List (S35)) (x9_1 : Int), v9 = .int .i64 x9_1 ∧ Aside0 (impl_stmtsFold.l0 kq x3_1 l0 (l0.length : Int) x9_1 = some r) ∧ Aside0 (kq ≤ k) ∧ Aside0 (Kd.N k35 35 w' w.heap.size (fun k_ => (w.heap.size ≤ k_)) v3 x3_1) ∧ Aside0 (Below w.heap.size w w'))
 case atStart => exact ⟨(([] : List (S35))), (0), sd_, H', ⟨Nat.le_refl _⟩, ⟨by first | exact Kd.R_nil _ _ _ _ _ | exact Kd.N_nil _ _ _ _ _ | exact Kd.V_nil _ _ _ _ _ | exact Kd.Q_nil _ _ _ _ _ | exact Kd.S_nil _ _ _ _ _⟩, ⟨ab2_⟩⟩
 case round =>
  clear H'
  obtain ⟨x3_1, x9_1, rfl, HA, HK1, HO_3, HB⟩ := hrel
  cases gk with
  | zero => exact absurd HA.out (by simp [impl_stmtsFold.l0])
  | succ k1 =>
   have H := HA.out
   clear HA
   simp only [impl_stmtsFold.l0] at H
   by_cases c2 : x9_1 < (l0.length : Int)
   ·rw [if_pos c2] at H
    have c2b0 : decide (x9_1 < (l0.length : Int)) = true := decide_eq_true c2
    clear c2
    by_cases c3 : 0 ≤ x9_1
    ·rw [if_pos c3] at H
     have c3b0 : decide (0 ≤ x9_1) = true := decide_eq_true c3
     clear c3
     by_cases c4 : x9_1 < (l0.length : Int)
     ·rw [if_pos c4] at H
      have c4b0 : decide (x9_1 < (l0.length : Int)) = true := decide_eq_true c4
      clear c4
      obtain ⟨t554, A50, H⟩ := bsm H
      (try dsimp only at H)
      have A5 := am A50
      clear A50
      obtain ⟨t557, A60, H⟩ := bsm H
      (try dsimp only at H)
      have A6 := am A60
      clear A60
      obtain ⟨⟨t560, t561, t562⟩, A70, H⟩ := bsm H
      (try dsimp only at H)
      have A7 := am A70
      clear A70
      have HC8 := am H
      clear H
      have p552 : 0 ≤ (x9_1 : Int) := of_decide_eq_true asm_
      have q552 : x9_1 < (l0.length : Int) := of_decide_eq_true asm_
      obtain ⟨ad552, A552_5, c552_5, A552_6, c552_6, A552_7, c552_7, e552, hx552_0, hx552_1, hx552_2, hx552_3, hx552_4, hx552_5, hx552_6, hx552_7, hl552_5, hi552_5, hl552_6, hi552_6, hl552_7, hi552_7⟩ := at_T35 HR0.out x9_1 p552 q552
      cases e552
      replace hx552_0 := (HB.out.cell (World.block_lt_of_cell? w _ hx552_0)).trans hx552_0
      replace hx552_1 := (HB.out.cell (World.block_lt_of_cell? w _ hx552_1)).trans hx552_1
      replace hx552_2 := (HB.out.cell (World.block_lt_of_cell? w _ hx552_2)).trans hx552_2
      replace hx552_3 := (HB.out.cell (World.block_lt_of_cell? w _ hx552_3)).trans hx552_3
      replace hx552_4 := (HB.out.cell (World.block_lt_of_cell? w _ hx552_4)).trans hx552_4
      replace hx552_5 := (HB.out.cell (World.block_lt_of_cell? w _ hx552_5)).trans hx552_5
      replace hx552_6 := (HB.out.cell (World.block_lt_of_cell? w _ hx552_6)).trans hx552_6
      replace hx552_7 := (HB.out.cell (World.block_lt_of_cell? w _ hx552_7)).trans hx552_7
      have HR552_5 := am hi552_5
      have HC552_5 := am hl552_5
      clear hi552_5 hl552_5
      have HR552_6 := am hi552_6
      have HC552_6 := am hl552_6
      clear hi552_6 hl552_6
      have HR552_7 := am hi552_7
      have HC552_7 := am hl552_7
      clear hi552_7 hl552_7
      replace p552 := eq_true p552
      replace q552 := eq_true q552
      try go_wp2_with (first | ((with_reducible refine gate_dst (N := 5) rfl ?_); refine box_event rfl (N := 5) rfl (cs := #[.int .i64 0, .int .i64 0, .int .i64 0, .int .i64 0, .int .i64 0, .slice none 0 0, .slice none 0 0, .slice none 0 0]) (t := 35) rn_ ?_; intro gb553 hg w9 hbox hb; replace HO_3 := am (Kd.N_below (Kd.N_elderB (aN_ HO_3.out) gb553 (Nat.le_of_eq hg.symm)) hb); have BK553 := am (hbox); have GW553 := am ((by rw [hg]; exact (below_size ab2_) : w.heap.size ≤ gb553)); have GE553 := am ((by rw [hg]; exact (below_size ab2_) : w.heap.size ≤ gb553)); replace HB := am (below_step ab2_ hb); clear hb hbox hg; obtain ⟨hcz10_0, hcz10_1, hcz10_2, hcz10_3, hcz10_4, hcz10_5, hcz10_6, hcz10_7, hfz10_0, hfz10_1, hfz10_2, hfz10_3, hfz10_4, hfz10_5, hfz10_6, hfz10_7⟩ := bcf8_ BK553.out))
      have n0_ : Aside0 (Kd.N k35 35 ((((((((w9.setCell ⟨gb553, 0, none⟩ (.int .i64 ((rd_T35 l0 x9_1).f0))).setCell ⟨gb553, 1, none⟩ (.int .i64 ((rd_T35 l0 x9_1).f1))).setCell ⟨gb553, 2, none⟩ (.int .i64 ((rd_T35 l0 x9_1).f2))).setCell ⟨gb553, 3, none⟩ (.int .i64 ((rd_T35 l0 x9_1).f3.f0))).setCell ⟨gb553, 4, none⟩ (.int .i64 ((rd_T35 l0 x9_1).f3.f1))).setCell ⟨gb553, 5, none⟩ (.slice A552_5 ((rd_T35 l0 x9_1).f3.f2).length c552_5)).setCell ⟨gb553, 6, none⟩ (.slice A552_6 ((rd_T35 l0 x9_1).f4).length c552_6)).setCell ⟨gb553, 7, none⟩ (.slice A552_7 ((rd_T35 l0 x9_1).f5).length c552_7)) w.heap.size (fun k_ => (w.heap.size ≤ k_) ∧ k_ ≠ gb553) u3 x3_1) := ⟨by (with_reducible repeat (first | apply Kd.N_alloc | apply Kd.N_drewN | apply Kd.N_drew)); exact Kd.N_mono (Kd.N_far (p := ⟨gb553, 7, none⟩) (Kd.N_far (p := ⟨gb553, 6, none⟩) (Kd.N_far (p := ⟨gb553, 5, none⟩) (Kd.N_far (p := ⟨gb553, 4, none⟩) (Kd.N_far (p := ⟨gb553, 3, none⟩) (Kd.N_far (p := ⟨gb553, 2, none⟩) (Kd.N_far (p := ⟨gb553, 1, none⟩) (Kd.N_far (p := ⟨gb553, 0, none⟩) (Kd.N_mono HO_3.out (fun k_ hk => (⟨hk, hk.2⟩ : _ ∧ k_ ≠ gb553))) (fun _ hk => hk.2) (.int .i64 ((rd_T35 l0 x9_1).f0))) (fun _ hk => hk.2) (.int .i64 ((rd_T35 l0 x9_1).f1))) (fun _ hk => hk.2) (.int .i64 ((rd_T35 l0 x9_1).f2))) (fun _ hk => hk.2) (.int .i64 ((rd_T35 l0 x9_1).f3.f0))) (fun _ hk => hk.2) (.int .i64 ((rd_T35 l0 x9_1).f3.f1))) (fun _ hk => hk.2) (.slice A552_5 ((rd_T35 l0 x9_1).f3.f2).length c552_5)) (fun _ hk => hk.2) (.slice A552_6 ((rd_T35 l0 x9_1).f4).length c552_6)) (fun _ hk => hk.2) (.slice A552_7 ((rd_T35 l0 x9_1).f5).length c552_7)) (fun _ hk => ⟨hk.1.1, hk.1.2⟩)⟩
      have n1_ : Aside0 (((((((((w9.setCell ⟨gb553, 0, none⟩ (.int .i64 ((rd_T35 l0 x9_1).f0))).setCell ⟨gb553, 1, none⟩ (.int .i64 ((rd_T35 l0 x9_1).f1))).setCell ⟨gb553, 2, none⟩ (.int .i64 ((rd_T35 l0 x9_1).f2))).setCell ⟨gb553, 3, none⟩ (.int .i64 ((rd_T35 l0 x9_1).f3.f0))).setCell ⟨gb553, 4, none⟩ (.int .i64 ((rd_T35 l0 x9_1).f3.f1))).setCell ⟨gb553, 5, none⟩ (.slice A552_5 ((rd_T35 l0 x9_1).f3.f2).length c552_5)).setCell ⟨gb553, 6, none⟩ (.slice A552_6 ((rd_T35 l0 x9_1).f4).length c552_6)).setCell ⟨gb553, 7, none⟩ (.slice A552_7 ((rd_T35 l0 x9_1).f5).length c552_7)).heap[gb553]? = some (.cells #[.int .i64 ((rd_T35 l0 x9_1).f0), .int .i64 ((rd_T35 l0 x9_1).f1), .int .i64 ((rd_T35 l0 x9_1).f2), .int .i64 ((rd_T35 l0 x9_1).f3.f0), .int .i64 ((rd_T35 l0 x9_1).f3.f1), .slice A552_5 ((rd_T35 l0 x9_1).f3.f2).length c552_5, .slice A552_6 ((rd_T35 l0 x9_1).f4).length c552_6, .slice A552_7 ((rd_T35 l0 x9_1).f5).length c552_7] 35 (0, 0))) := ⟨(blk_put (blk_put (blk_put (blk_put (blk_put (blk_put (blk_put (blk_put BK553.out 0 _ rfl) 1 _ rfl) 2 _ rfl) 3 _ rfl) 4 _ rfl) 5 _ rfl) 6 _ rfl) 7 _ rfl)⟩
      have n2_ : Aside0 (Below w.heap.size w ((((((((w9.setCell ⟨gb553, 0, none⟩ (.int .i64 ((rd_T35 l0 x9_1).f0))).setCell ⟨gb553, 1, none⟩ (.int .i64 ((rd_T35 l0 x9_1).f1))).setCell ⟨gb553, 2, none⟩ (.int .i64 ((rd_T35 l0 x9_1).f2))).setCell ⟨gb553, 3, none⟩ (.int .i64 ((rd_T35 l0 x9_1).f3.f0))).setCell ⟨gb553, 4, none⟩ (.int .i64 ((rd_T35 l0 x9_1).f3.f1))).setCell ⟨gb553, 5, none⟩ (.slice A552_5 ((rd_T35 l0 x9_1).f3.f2).length c552_5)).setCell ⟨gb553, 6, none⟩ (.slice A552_6 ((rd_T35 l0 x9_1).f4).length c552_6)).setCell ⟨gb553, 7, none⟩ (.slice A552_7 ((rd_T35 l0 x9_1).f5).length c552_7))) := ⟨ab10_⟩
      (try clear HO_3)
      (try clear BK553)
      (try clear HB)
      generalize ((((((((w9.setCell ⟨gb553, 0, none⟩ (.int .i64 ((rd_T35 l0 x9_1).f0))).setCell ⟨gb553, 1, none⟩ (.int .i64 ((rd_T35 l0 x9_1).f1))).setCell ⟨gb553, 2, none⟩ (.int .i64 ((rd_T35 l0 x9_1).f2))).setCell ⟨gb553, 3, none⟩ (.int .i64 ((rd_T35 l0 x9_1).f3.f0))).setCell ⟨gb553, 4, none⟩ (.int .i64 ((rd_T35 l0 x9_1).f3.f1))).setCell ⟨gb553, 5, none⟩ (.slice A552_5 ((rd_T35 l0 x9_1).f3.f2).length c552_5)).setCell ⟨gb553, 6, none⟩ (.slice A552_6 ((rd_T35 l0 x9_1).f4).length c552_6)).setCell ⟨gb553, 7, none⟩ (.slice A552_7 ((rd_T35 l0 x9_1).f5).length c552_7)) = w11 at n0_ n1_ n2_ ⊢
      have HO_3 := n0_
      have BK553 := n1_
      have HB := n2_
      clear n0_ n1_ n2_
      replace HO_3 := am (Kd.N_drew HO_3.out)
      replace BK553 := am (blk_drew BK553.out)
      replace HB := am (below_drew1 HB.out)
      refine start_ (n := 15) (S := fun w' => w'.cell? ⟨gb553, 0, none⟩ = some (.int .i64 ((rd_T35 l0 x9_1).f0)) ∧ w'.cell? ⟨gb553, 1, none⟩ = some (.int .i64 ((rd_T35 l0 x9_1).f1)) ∧ w'.cell? ⟨gb553, 2, none⟩ = some (.int .i64 ((rd_T35 l0 x9_1).f2)) ∧ w'.cell? ⟨gb553, 3, none⟩ = some (.int .i64 ((rd_T35 l0 x9_1).f3.f0)) ∧ w'.cell? ⟨gb553, 4, none⟩ = some (.int .i64 ((rd_T35 l0 x9_1).f3.f1)) ∧ w'.cell? ⟨gb553, 5, none⟩ = some (.slice A552_5 ((rd_T35 l0 x9_1).f3.f2).length c552_5) ∧ w'.cell? ⟨gb553, 6, none⟩ = some (.slice A552_6 ((rd_T35 l0 x9_1).f4).length c552_6) ∧ w'.cell? ⟨gb553, 7, none⟩ = some (.slice A552_7 ((rd_T35 l0 x9_1).f5).length c552_7)) (ds := [10, 12, 14]) #[false, false, false, false, false, false, false, false, false, false, false, false, false, false, false] (by kernel_rfl) rfl rfl ⟨(blk_cell BK553.out 0).trans rfl, (blk_cell BK553.out 1).trans rfl, (blk_cell BK553.out 2).trans rfl, (blk_cell BK553.out 3).trans rfl, (blk_cell BK553.out 4).trans rfl, (blk_cell BK553.out 5).trans rfl, (blk_cell BK553.out 6).trans rfl, (blk_cell BK553.out 7).trans rfl⟩ (fun hHeld => ?_); refine with_tabW impl_stmtsFold.tab5 impl_stmtsFold.bits5 (fun HT_ HW_ => ?_)
      generalize w11.drew = w12 at HO_3 BK553 HB hHeld ⊢
      refine pure_ (i := 0) (N := some 13) (v := ?_) (a' := ?_) #[true, false, false, false, false, false, false, false, false, false, false, false, false, false, false] rfl rfl (any_of HT_.out (by kernel_rfl)) (fun _ _ _ h => h) (Or.inl ⟨by rfl, ?_⟩) ?_ ?_
      rotate_left
      ·intro w'
       go_simp
       with_reducible rfl
      rotate_left
      ·simp only [Act.put, List.setIfInBounds_toArray, List.set_cons_zero, List.set_cons_succ, i64_w, i32_w]
       rfl
      refine pure_ (i := 3) (N := some 16) (v := ?_) (a' := ?_) #[true, false, false, true, false, false, false, false, false, false, false, false, false, false, false] rfl rfl (any_of HT_.out (by kernel_rfl)) (fun _ _ _ h => h) (Or.inl ⟨by rfl, ?_⟩) ?_ ?_
      rotate_left
      ·intro w'
       go_simp
       with_reducible rfl
      rotate_left
      ·simp only [Act.put, List.setIfInBounds_toArray, List.set_cons_zero, List.set_cons_succ, i64_w, i32_w]
       rfl
      refine pure_ (i := 6) (N := some 19) (v := ?_) (a' := ?_) #[true, false, false, true, false, false, true, false, false, false, false, false, false, false, false] rfl rfl (any_of HT_.out (by kernel_rfl)) (fun _ _ _ h => h) (Or.inl ⟨by rfl, ?_⟩) ?_ ?_
      rotate_left
      ·intro w'
       go_simp
       with_reducible rfl
      rotate_left
      ·simp only [Act.put, List.setIfInBounds_toArray, List.set_cons_zero, List.set_cons_succ, i64_w, i32_w]
       rfl
      refine take_ (i := 1) (N := some 14) (v := ?_) (a' := ?_) #[true, true, false, true, false, false, true, false, false, false, false, false, false, false, false] rfl rfl (take_ofW HT_.out HW_.out (by kernel_rfl)) (fun _ _ _ h => h) (Or.inl ⟨by rfl, ?_⟩) hHeld ?_ ?_
      rotate_left
      ·rintro w' ⟨s0, s1, s2, s3, s4, s5, s6, s7⟩
       go_simp
       with_reducible rfl
      rotate_left
      ·simp only [Act.put, List.setIfInBounds_toArray, List.set_cons_zero, List.set_cons_succ, i64_w, i32_w]
       rfl
      refine take_ (i := 4) (N := some 17) (v := ?_) (a' := ?_) #[true, true, false, true, true, false, true, false, false, false, false, false, false, false, false] rfl rfl (take_ofW HT_.out HW_.out (by kernel_rfl)) (fun _ _ _ h => h) (Or.inl ⟨by rfl, ?_⟩) hHeld ?_ ?_
      rotate_left
      ·rintro w' ⟨s0, s1, s2, s3, s4, s5, s6, s7⟩
       go_simp
       with_reducible rfl
      rotate_left
      ·simp only [Act.put, List.setIfInBounds_toArray, List.set_cons_zero, List.set_cons_succ, i64_w, i32_w]
       rfl
      refine take_ (i := 7) (N := some 20) (v := ?_) (a' := ?_) #[true, true, false, true, true, false, true, true, false, false, false, false, false, false, false] rfl rfl (take_ofW HT_.out HW_.out (by kernel_rfl)) (fun _ _ _ h => h) (Or.inl ⟨by rfl, ?_⟩) hHeld ?_ ?_
      rotate_left
      ·rintro w' ⟨s0, s1, s2, s3, s4, s5, s6, s7⟩
       go_simp
       with_reducible rfl
      rotate_left
      ·simp only [Act.put, List.setIfInBounds_toArray, List.set_cons_zero, List.set_cons_succ, i64_w, i32_w]
       rfl
      refine one_ (i := 2) (N := some 15) #[true, true, true, true, true, false, true, true, false, false, false, false, false, false, false] rfl rfl (one_of HT_.out (by kernel_rfl)) (by decide) (fun K hK => ?_)
      refine goes_ Try.func46 (by kernel_rfl) rfl #[.slice A552_6 ((rd_T35 l0 x9_1).f4).length c552_6] (by rfl) rfl rfl ab1_ ?_
      with_reducible refine (ih k1 (by have := HK1.out; omega) _ _ ((rd_T35 l0 x9_1).f4) t554 _ (aC_ (Kd.C_below HR552_6.out HB.out)) HC552_6.out A5.out).mono ?_
      rintro e w13 ⟨v555, rfl, ho0, hb⟩
      refine ⟨_, rfl, ?_⟩
      have HO556 := am (Kd.N_lower (Kd.N_mono (ok' := fun k_ => (w.heap.size ≤ k_) ∧ some k_ ≠ (u3 : Value).ownBlock ∧ k_ ≠ gb553) ho0 (fun k_ hk_ => ⟨(Nat.le_trans (below_size ab10_) hk_), (Kd.fresh' (Kd.N_lt (aN_ HO_3.out)) k_ hk_), (frb_ BK553.out k_ hk_)⟩)) (below_size ab10_))
      replace HO_3 := am (Kd.N_elder' (aN_ HO_3.out) (by first | exact Kd.N_base ho0 | exact Kd.N_base (Kd.R_N ho0)) hb)
      replace BK553 := am (bbl_ BK553.out hb)
      replace HB := am (below_step ab10_ hb)
      (try clear hb)
      (try clear hb2)
      (try clear hk)
      (try clear hi)
      (try clear ho0)
      refine hK.out _ _ ⟨(blk_cell BK553.out 0).trans rfl, (blk_cell BK553.out 1).trans rfl, (blk_cell BK553.out 2).trans rfl, (blk_cell BK553.out 3).trans rfl, (blk_cell BK553.out 4).trans rfl, (blk_cell BK553.out 5).trans rfl, (blk_cell BK553.out 6).trans rfl, (blk_cell BK553.out 7).trans rfl⟩ (fun hHeld => ?_)
      clear hK K
      refine norm_ (a' := ?_) ?_ ?_
      rotate_left
      ·show Act.put _ (some 15) _ = _
       simp only [Act.put, List.setIfInBounds_toArray, List.set_cons_zero, List.set_cons_succ, i64_w, i32_w]
       rfl
      refine pure_ (i := 9) (N := some 22) (v := ?_) (a' := ?_) #[true, true, true, true, true, false, true, true, false, true, false, false, false, false, false] rfl rfl (any_of HT_.out (by kernel_rfl)) (fun _ _ _ h => h) (Or.inl ⟨by rfl, ?_⟩) ?_ ?_
      rotate_left
      ·intro w'
       go_simp
       with_reducible rfl
      rotate_left
      ·simp only [Act.put, List.setIfInBounds_toArray, List.set_cons_zero, List.set_cons_succ, i64_w, i32_w]
       rfl
      refine one_ (i := 5) (N := some 18) #[true, true, true, true, true, true, true, true, false, true, false, false, false, false, false] rfl rfl (one_of HT_.out (by kernel_rfl)) (by decide) (fun K hK => ?_)
      refine goes_ Try.func46 (by kernel_rfl) rfl #[.slice A552_7 ((rd_T35 l0 x9_1).f5).length c552_7] (by rfl) rfl rfl ab1_ ?_
      with_reducible refine (ih k1 (by have := HK1.out; omega) _ _ ((rd_T35 l0 x9_1).f5) t557 _ (aC_ (Kd.C_below HR552_7.out HB.out)) HC552_7.out A6.out).mono ?_
      rintro e w14 ⟨v558, rfl, ho0, hb⟩
      refine ⟨_, rfl, ?_⟩
      have HO559 := am (Kd.N_lower (Kd.N_mono (ok' := fun k_ => (w.heap.size ≤ k_) ∧ some k_ ≠ (u3 : Value).ownBlock ∧ some k_ ≠ (v555 : Value).ownBlock ∧ k_ ≠ gb553) ho0 (fun k_ hk_ => ⟨(Nat.le_trans (below_size ab10_) hk_), (Kd.fresh' (Kd.N_lt (aN_ HO_3.out)) k_ hk_), (Kd.fresh' (Kd.N_lt (aN_ HO556.out)) k_ hk_), (frb_ BK553.out k_ hk_)⟩)) (below_size ab10_))
      replace HO_3 := am (Kd.N_elder' (aN_ HO_3.out) (by first | exact Kd.N_base ho0 | exact Kd.N_base (Kd.R_N ho0)) hb)
      replace HO556 := am (Kd.N_elder' (aN_ HO556.out) (by first | exact Kd.N_base ho0 | exact Kd.N_base (Kd.R_N ho0)) hb)
      replace BK553 := am (bbl_ BK553.out hb)
      replace HB := am (below_step ab10_ hb)
      (try clear hb)
      (try clear hb2)
      (try clear hk)
      (try clear hi)
      (try clear ho0)
      refine hK.out _ _ ⟨(blk_cell BK553.out 0).trans rfl, (blk_cell BK553.out 1).trans rfl, (blk_cell BK553.out 2).trans rfl, (blk_cell BK553.out 3).trans rfl, (blk_cell BK553.out 4).trans rfl, (blk_cell BK553.out 5).trans rfl, (blk_cell BK553.out 6).trans rfl, (blk_cell BK553.out 7).trans rfl⟩ (fun hHeld => ?_)
      clear hK K
      refine norm_ (a' := ?_) ?_ ?_
      rotate_left
      ·show Act.put _ (some 18) _ = _
       simp only [Act.put, List.setIfInBounds_toArray, List.set_cons_zero, List.set_cons_succ, i64_w, i32_w]
       rfl
      refine one_ (i := 8) (N := some 21) #[true, true, true, true, true, true, true, true, true, true, false, false, false, false, false] rfl rfl (one_of HT_.out (by kernel_rfl)) (by decide) (fun K hK => ?_)
      refine goes_ Try.func78 (by kernel_rfl) rfl #[.agg #[.int .i64 ((rd_T35 l0 x9_1).f3.f0), .int .i64 ((rd_T35 l0 x9_1).f3.f1), .slice A552_5 ((rd_T35 l0 x9_1).f3.f2).length c552_5]] (by rfl) rfl rfl ab1_ ?_
      with_reducible refine (impl_exprFold.calls k1 ((rd_T35 l0 x9_1).f3.f0) ((rd_T35 l0 x9_1).f3.f1) _ _ ((rd_T35 l0 x9_1).f3.f2) t560 t561 t562 _ (aC_ (Kd.C_below HR552_5.out HB.out)) HC552_5.out A7.out).mono ?_
      rintro e w15 ⟨v563, rfl, ho0, hb⟩
      refine ⟨_, rfl, ?_⟩
      have HO564 := am (Kd.N_lower (Kd.N_mono (ok' := fun k_ => (w.heap.size ≤ k_) ∧ some k_ ≠ (u3 : Value).ownBlock ∧ some k_ ≠ (v555 : Value).ownBlock ∧ some k_ ≠ (v558 : Value).ownBlock ∧ k_ ≠ gb553) ho0 (fun k_ hk_ => ⟨(Nat.le_trans (below_size ab10_) hk_), (Kd.fresh' (Kd.N_lt (aN_ HO_3.out)) k_ hk_), (Kd.fresh' (Kd.N_lt (aN_ HO556.out)) k_ hk_), (Kd.fresh' (Kd.N_lt (aN_ HO559.out)) k_ hk_), (frb_ BK553.out k_ hk_)⟩)) (below_size ab10_))
      replace HO_3 := am (Kd.N_elder' (aN_ HO_3.out) (by first | exact Kd.N_base ho0 | exact Kd.N_base (Kd.R_N ho0)) hb)
      replace HO556 := am (Kd.N_elder' (aN_ HO556.out) (by first | exact Kd.N_base ho0 | exact Kd.N_base (Kd.R_N ho0)) hb)
      replace HO559 := am (Kd.N_elder' (aN_ HO559.out) (by first | exact Kd.N_base ho0 | exact Kd.N_base (Kd.R_N ho0)) hb)
      replace BK553 := am (bbl_ BK553.out hb)
      replace HB := am (below_step ab10_ hb)
      (try clear hb)
      (try clear hb2)
      (try clear hk)
      (try clear hi)
      (try clear ho0)
      obtain ⟨Ao16, co16, eo16⟩ := Kd.N_slice HO556.out
      (first | subst eo16 | (injection eo16 with f1_ f2_ f3_; have f4_ := f1_.symm; have f5_ := f3_.symm; clear f1_ f2_ f3_; subst f4_; subst f5_))
      obtain ⟨Ao18, co18, eo18⟩ := Kd.N_slice HO559.out
      (first | subst eo18 | (injection eo18 with f1_ f2_ f3_; have f4_ := f1_.symm; have f5_ := f3_.symm; clear f1_ f2_ f3_; subst f4_; subst f5_))
      obtain ⟨Ao22, co22, eo22⟩ := Kd.N_slice HO564.out
      (first | subst eo22 | (injection eo22 with f1_ f2_ f3_; have f4_ := f1_.symm; have f5_ := f3_.symm; clear f1_ f2_ f3_; subst f4_; subst f5_))
      refine hK.out _ _ ⟨(blk_cell BK553.out 0).trans rfl, (blk_cell BK553.out 1).trans rfl, (blk_cell BK553.out 2).trans rfl, (blk_cell BK553.out 3).trans rfl, (blk_cell BK553.out 4).trans rfl, (blk_cell BK553.out 5).trans rfl, (blk_cell BK553.out 6).trans rfl, (blk_cell BK553.out 7).trans rfl⟩ (fun hHeld => ?_)
      clear hK K
      refine norm_ (a' := ?_) ?_ ?_
      rotate_left
      ·show Act.put _ (some 21) _ = _
       simp only [Act.put, List.setIfInBounds_toArray, List.set_cons_zero, List.set_cons_succ, i64_w, i32_w]
       rfl
      refine last_ (i := 10) (N := none) #[true, true, true, true, true, true, true, true, true, true, true, false, false, false, false] rfl rfl (one_of HT_.out (by kernel_rfl)) (by decide) (fun K hK => ?_)
      have hs17 : w15.cell? ⟨gb553, 6, none⟩ = some (.slice A552_6 ((rd_T35 l0 x9_1).f4).length c552_6) := (blk_cell BK553.out 6).trans rfl
      have hfs17 := blk_frozen BK553.out 6
      refine skip_ (w1 := ?_) (by rfl) rfl ?_ ?_
      rotate_left
      ·go_simp
       rfl
      refine hK.out _ _ ?_
      clear hK K
      refine pure_ (i := 11) (N := some 23) (v := ?_) (a' := ?_) #[true, true, true, true, true, true, true, true, true, true, true, true, false, false, false] rfl rfl (any_of HT_.out (by kernel_rfl)) (fun _ _ _ h => h) (Or.inl ⟨by rfl, ?_⟩) ?_ ?_
      rotate_left
      ·intro w'
       go_simp
       with_reducible rfl
      rotate_left
      ·simp only [Act.put, List.setIfInBounds_toArray, List.set_cons_zero, List.set_cons_succ, i64_w, i32_w]
       rfl
      refine last_ (i := 12) (N := none) #[true, true, true, true, true, true, true, true, true, true, true, true, true, false, false] rfl rfl (one_of HT_.out (by kernel_rfl)) (by decide) (fun K hK => ?_)
      have hs19 : w15.cell? ⟨gb553, 7, none⟩ = some (.slice A552_7 ((rd_T35 l0 x9_1).f5).length c552_7) := (blk_cell BK553.out 7).trans rfl
      have hfs19 := blk_frozen BK553.out 7
      refine skip_ (w1 := ?_) (by rfl) rfl ?_ ?_
      rotate_left
      ·go_simp
       rfl
      refine hK.out _ _ ?_
      clear hK K
      refine pure_ (i := 13) (N := some 24) (v := ?_) (a' := ?_) #[true, true, true, true, true, true, true, true, true, true, true, true, true, true, false] rfl rfl (any_of HT_.out (by kernel_rfl)) (fun _ _ _ h => h) (Or.inl ⟨by rfl, ?_⟩) ?_ ?_
      rotate_left
      ·intro w'
       go_simp
       with_reducible rfl
      rotate_left
      ·simp only [Act.put, List.setIfInBounds_toArray, List.set_cons_zero, List.set_cons_succ, i64_w, i32_w]
       rfl
      refine last_ (i := 14) (N := none) #[true, true, true, true, true, true, true, true, true, true, true, true, true, true, true] rfl rfl (one_of HT_.out (by kernel_rfl)) (by decide) (fun K hK => ?_)
      have hs20 : w15.cell? ⟨gb553, 3, none⟩ = some (.int .i64 ((rd_T35 l0 x9_1).f3.f0)) := (blk_cell BK553.out 3).trans rfl
      have hfs20 := blk_frozen BK553.out 3
      have hs21 : w15.cell? ⟨gb553, 4, none⟩ = some (.int .i64 ((rd_T35 l0 x9_1).f3.f1)) := (blk_cell BK553.out 4).trans rfl
      have hfs21 := blk_frozen BK553.out 4
      have hs23 : w15.cell? ⟨gb553, 5, none⟩ = some (.slice A552_5 ((rd_T35 l0 x9_1).f3.f2).length c552_5) := (blk_cell BK553.out 5).trans rfl
      have hfs23 := blk_frozen BK553.out 5
      refine skip_ (w1 := ?_) (by rfl) rfl ?_ ?_
      rotate_left
      ·go_simp
       rfl
      refine hK.out _ _ ?_
      clear hK K
      refine done_ (done_of HT_.out (by kernel_rfl)) ?_
      obtain ⟨hcz24_0, hcz24_1, hcz24_2, hcz24_3, hcz24_4, hcz24_5, hcz24_6, hcz24_7, hfz24_0, hfz24_1, hfz24_2, hfz24_3, hfz24_4, hfz24_5, hfz24_6, hfz24_7⟩ := bcf8_ BK553.out
      go_upto_region 8 with (fail)
      go_cut [33] (fun v33 wc => ∃ (kq : Nat) (x33_7 : Bool), v33 = .bool x33_7 ∧ Aside0 (impl_stmtsFold.j1 kq x3_1 (t560 == 0) l0 (l0.length : Int) x9_1 x33_7 ((rd_T35 l0 x9_1).f0) ((rd_T35 l0 x9_1).f1) ((rd_T35 l0 x9_1).f2) t560 t561 t562 t554 t557 = some r) ∧ Aside0 (kq ≤ k1) ∧ Aside0 (Kd.N k35 35 wc w.heap.size (fun k_ => (w.heap.size ≤ k_) ∧ some k_ ≠ ((.slice Ao22 t562.length co22) : Value).ownBlock ∧ some k_ ≠ ((.slice Ao16 t554.length co16) : Value).ownBlock ∧ some k_ ≠ ((.slice Ao18 t557.length co18) : Value).ownBlock ∧ k_ ≠ gb553) u3 x3_1) ∧ Aside0 (Kd.N k32 32 wc w.heap.size (fun k_ => (w.heap.size ≤ k_) ∧ some k_ ≠ (u3 : Value).ownBlock ∧ some k_ ≠ ((.slice Ao16 t554.length co16) : Value).ownBlock ∧ some k_ ≠ ((.slice Ao18 t557.length co18) : Value).ownBlock ∧ k_ ≠ gb553) (.slice Ao22 t562.length co22) t562) ∧ Aside0 (Kd.N k35 35 wc w.heap.size (fun k_ => (w.heap.size ≤ k_) ∧ some k_ ≠ (u3 : Value).ownBlock ∧ some k_ ≠ ((.slice Ao22 t562.length co22) : Value).ownBlock ∧ some k_ ≠ ((.slice Ao18 t557.length co18) : Value).ownBlock ∧ k_ ≠ gb553) (.slice Ao16 t554.length co16) t554) ∧ Aside0 (Kd.N k35 35 wc w.heap.size (fun k_ => (w.heap.size ≤ k_) ∧ some k_ ≠ (u3 : Value).ownBlock ∧ some k_ ≠ ((.slice Ao22 t562.length co22) : Value).ownBlock ∧ some k_ ≠ ((.slice Ao16 t554.length co16) : Value).ownBlock ∧ k_ ≠ gb553) (.slice Ao18 t557.length co18) t557) ∧ Aside0 (wc.heap[gb553]? = some (.cells #[.int .i64 ((rd_T35 l0 x9_1).f0), .int .i64 ((rd_T35 l0 x9_1).f1), .int .i64 ((rd_T35 l0 x9_1).f2), .int .i64 t560, .int .i64 t561, (.slice Ao22 t562.length co22), (.slice Ao16 t554.length co16), (.slice Ao18 t557.length co18)] 35 (0, 0))) ∧ Aside0 (Below w.heap.size w wc))
      case first =>
       have H := HC8.out
       clear HC8
       by_cases c25 : ((rd_T35 l0 x9_1).f0) = 2
       ·rw [if_pos c25] at H
        have c25b0 : (((rd_T35 l0 x9_1).f0) == 2) = true := beq_iff_eq.mpr c25
        have c25b1 : (((rd_T35 l0 x9_1).f0) != 2) = false := bne_eq_false_iff_eq.mpr c25
        clear c25
        (first | rw [c25b0] | (simp only [i64_w, i32_w]; rw [c25b0]) | skip)
        by_cases c26 : t560 = 0
        ·rw [if_pos c26] at H
         have c26b0 : (t560 == 0) = true := beq_iff_eq.mpr c26
         have c26b1 : (t560 != 0) = false := bne_eq_false_iff_eq.mpr c26
         clear c26
         have H' := am H
         clear H
         obtain ⟨hcz27_0, hcz27_1, hcz27_2, hcz27_3, hcz27_4, hcz27_5, hcz27_6, hcz27_7, hfz27_0, hfz27_1, hfz27_2, hfz27_3, hfz27_4, hfz27_5, hfz27_6, hfz27_7⟩ := bcf8_ BK553.out
         go_wp2
         go_meet
         case rel => exact ⟨_, ((t561 != 0)), sd_, H', ⟨by have := HK1.out; first | omega | exact Nat.le_refl _⟩, ⟨by (with_reducible repeat (first | apply Kd.N_alloc | apply Kd.N_drewN | apply Kd.N_drew)); exact Kd.N_mono (Kd.N_far (p := ⟨gb553, 5, none⟩) (Kd.N_far (p := ⟨gb553, 4, none⟩) (Kd.N_far (p := ⟨gb553, 3, none⟩) (Kd.N_far (p := ⟨gb553, 7, none⟩) (Kd.N_far (p := ⟨gb553, 6, none⟩) (Kd.N_mono HO_3.out (fun k_ hk => (⟨hk, hk.1.1.1.2⟩ : _ ∧ k_ ≠ gb553))) (fun _ hk => hk.2) (.slice Ao16 t554.length co16)) (fun _ hk => hk.2) (.slice Ao18 t557.length co18)) (fun _ hk => hk.2) (.int .i64 t560)) (fun _ hk => hk.2) (.int .i64 t561)) (fun _ hk => hk.2) (.slice Ao22 t562.length co22)) (fun _ hk => ⟨hk.1.1.1.1.1, ⟨hk.1.2, ⟨hk.1.1.1.2, ⟨hk.1.1.2, hk.1.1.1.1.2⟩⟩⟩⟩)⟩, ⟨by (with_reducible repeat (first | apply Kd.N_alloc | apply Kd.N_drewN | apply Kd.N_drew)); exact Kd.N_mono (Kd.N_far (p := ⟨gb553, 5, none⟩) (Kd.N_far (p := ⟨gb553, 4, none⟩) (Kd.N_far (p := ⟨gb553, 3, none⟩) (Kd.N_far (p := ⟨gb553, 7, none⟩) (Kd.N_far (p := ⟨gb553, 6, none⟩) (Kd.N_mono HO564.out (fun k_ hk => (⟨hk, hk.2.2.2.2⟩ : _ ∧ k_ ≠ gb553))) (fun _ hk => hk.2) (.slice Ao16 t554.length co16)) (fun _ hk => hk.2) (.slice Ao18 t557.length co18)) (fun _ hk => hk.2) (.int .i64 t560)) (fun _ hk => hk.2) (.int .i64 t561)) (fun _ hk => hk.2) (.slice Ao22 t562.length co22)) (fun _ hk => ⟨hk.1.1, ⟨hk.1.2.1, ⟨hk.1.2.2.1, ⟨hk.1.2.2.2.1, hk.1.2.2.2.2⟩⟩⟩⟩)⟩, ⟨by (with_reducible repeat (first | apply Kd.N_alloc | apply Kd.N_drewN | apply Kd.N_drew)); exact Kd.N_mono (Kd.N_far (p := ⟨gb553, 5, none⟩) (Kd.N_far (p := ⟨gb553, 4, none⟩) (Kd.N_far (p := ⟨gb553, 3, none⟩) (Kd.N_far (p := ⟨gb553, 7, none⟩) (Kd.N_far (p := ⟨gb553, 6, none⟩) (Kd.N_mono HO556.out (fun k_ hk => (⟨hk, hk.1.1.2.2⟩ : _ ∧ k_ ≠ gb553))) (fun _ hk => hk.2) (.slice Ao16 t554.length co16)) (fun _ hk => hk.2) (.slice Ao18 t557.length co18)) (fun _ hk => hk.2) (.int .i64 t560)) (fun _ hk => hk.2) (.int .i64 t561)) (fun _ hk => hk.2) (.slice Ao22 t562.length co22)) (fun _ hk => ⟨hk.1.1.1.1, ⟨hk.1.1.1.2.1, ⟨hk.1.2, ⟨hk.1.1.2, hk.1.1.1.2.2⟩⟩⟩⟩)⟩, ⟨by (with_reducible repeat (first | apply Kd.N_alloc | apply Kd.N_drewN | apply Kd.N_drew)); exact Kd.N_mono (Kd.N_far (p := ⟨gb553, 5, none⟩) (Kd.N_far (p := ⟨gb553, 4, none⟩) (Kd.N_far (p := ⟨gb553, 3, none⟩) (Kd.N_far (p := ⟨gb553, 7, none⟩) (Kd.N_far (p := ⟨gb553, 6, none⟩) (Kd.N_mono HO559.out (fun k_ hk => (⟨hk, hk.1.2.2.2⟩ : _ ∧ k_ ≠ gb553))) (fun _ hk => hk.2) (.slice Ao16 t554.length co16)) (fun _ hk => hk.2) (.slice Ao18 t557.length co18)) (fun _ hk => hk.2) (.int .i64 t560)) (fun _ hk => hk.2) (.int .i64 t561)) (fun _ hk => hk.2) (.slice Ao22 t562.length co22)) (fun _ hk => ⟨hk.1.1.1, ⟨hk.1.1.2.1, ⟨hk.1.2, ⟨hk.1.1.2.2.1, hk.1.1.2.2.2⟩⟩⟩⟩)⟩, ⟨(blk_put (blk_put (blk_put (blk_put (blk_put BK553.out 6 _ rfl) 7 _ rfl) 3 _ rfl) 4 _ rfl) 5 _ rfl)⟩, ⟨ab10_⟩⟩
        rw [if_neg c26] at H
        have c26b0 : (t560 == 0) = false := beq_eq_false_iff_ne.mpr c26
        have c26b1 : (t560 != 0) = true := bne_iff_ne.mpr c26
        have H' := am H
        clear H
        obtain ⟨hcz28_0, hcz28_1, hcz28_2, hcz28_3, hcz28_4, hcz28_5, hcz28_6, hcz28_7, hfz28_0, hfz28_1, hfz28_2, hfz28_3, hfz28_4, hfz28_5, hfz28_6, hfz28_7⟩ := bcf8_ BK553.out
        go_wp2
        go_meet
        case rel => exact ⟨_, (false), sd_, H', ⟨by have := HK1.out; first | omega | exact Nat.le_refl _⟩, ⟨by (with_reducible repeat (first | apply Kd.N_alloc | apply Kd.N_drewN | apply Kd.N_drew)); exact Kd.N_mono (Kd.N_far (p := ⟨gb553, 5, none⟩) (Kd.N_far (p := ⟨gb553, 4, none⟩) (Kd.N_far (p := ⟨gb553, 3, none⟩) (Kd.N_far (p := ⟨gb553, 7, none⟩) (Kd.N_far (p := ⟨gb553, 6, none⟩) (Kd.N_mono HO_3.out (fun k_ hk => (⟨hk, hk.1.1.1.2⟩ : _ ∧ k_ ≠ gb553))) (fun _ hk => hk.2) (.slice Ao16 t554.length co16)) (fun _ hk => hk.2) (.slice Ao18 t557.length co18)) (fun _ hk => hk.2) (.int .i64 t560)) (fun _ hk => hk.2) (.int .i64 t561)) (fun _ hk => hk.2) (.slice Ao22 t562.length co22)) (fun _ hk => ⟨hk.1.1.1.1.1, ⟨hk.1.2, ⟨hk.1.1.1.2, ⟨hk.1.1.2, hk.1.1.1.1.2⟩⟩⟩⟩)⟩, ⟨by (with_reducible repeat (first | apply Kd.N_alloc | apply Kd.N_drewN | apply Kd.N_drew)); exact Kd.N_mono (Kd.N_far (p := ⟨gb553, 5, none⟩) (Kd.N_far (p := ⟨gb553, 4, none⟩) (Kd.N_far (p := ⟨gb553, 3, none⟩) (Kd.N_far (p := ⟨gb553, 7, none⟩) (Kd.N_far (p := ⟨gb553, 6, none⟩) (Kd.N_mono HO564.out (fun k_ hk => (⟨hk, hk.2.2.2.2⟩ : _ ∧ k_ ≠ gb553))) (fun _ hk => hk.2) (.slice Ao16 t554.length co16)) (fun _ hk => hk.2) (.slice Ao18 t557.length co18)) (fun _ hk => hk.2) (.int .i64 t560)) (fun _ hk => hk.2) (.int .i64 t561)) (fun _ hk => hk.2) (.slice Ao22 t562.length co22)) (fun _ hk => ⟨hk.1.1, ⟨hk.1.2.1, ⟨hk.1.2.2.1, ⟨hk.1.2.2.2.1, hk.1.2.2.2.2⟩⟩⟩⟩)⟩, ⟨by (with_reducible repeat (first | apply Kd.N_alloc | apply Kd.N_drewN | apply Kd.N_drew)); exact Kd.N_mono (Kd.N_far (p := ⟨gb553, 5, none⟩) (Kd.N_far (p := ⟨gb553, 4, none⟩) (Kd.N_far (p := ⟨gb553, 3, none⟩) (Kd.N_far (p := ⟨gb553, 7, none⟩) (Kd.N_far (p := ⟨gb553, 6, none⟩) (Kd.N_mono HO556.out (fun k_ hk => (⟨hk, hk.1.1.2.2⟩ : _ ∧ k_ ≠ gb553))) (fun _ hk => hk.2) (.slice Ao16 t554.length co16)) (fun _ hk => hk.2) (.slice Ao18 t557.length co18)) (fun _ hk => hk.2) (.int .i64 t560)) (fun _ hk => hk.2) (.int .i64 t561)) (fun _ hk => hk.2) (.slice Ao22 t562.length co22)) (fun _ hk => ⟨hk.1.1.1.1, ⟨hk.1.1.1.2.1, ⟨hk.1.2, ⟨hk.1.1.2, hk.1.1.1.2.2⟩⟩⟩⟩)⟩, ⟨by (with_reducible repeat (first | apply Kd.N_alloc | apply Kd.N_drewN | apply Kd.N_drew)); exact Kd.N_mono (Kd.N_far (p := ⟨gb553, 5, none⟩) (Kd.N_far (p := ⟨gb553, 4, none⟩) (Kd.N_far (p := ⟨gb553, 3, none⟩) (Kd.N_far (p := ⟨gb553, 7, none⟩) (Kd.N_far (p := ⟨gb553, 6, none⟩) (Kd.N_mono HO559.out (fun k_ hk => (⟨hk, hk.1.2.2.2⟩ : _ ∧ k_ ≠ gb553))) (fun _ hk => hk.2) (.slice Ao16 t554.length co16)) (fun _ hk => hk.2) (.slice Ao18 t557.length co18)) (fun _ hk => hk.2) (.int .i64 t560)) (fun _ hk => hk.2) (.int .i64 t561)) (fun _ hk => hk.2) (.slice Ao22 t562.length co22)) (fun _ hk => ⟨hk.1.1.1, ⟨hk.1.1.2.1, ⟨hk.1.2, ⟨hk.1.1.2.2.1, hk.1.1.2.2.2⟩⟩⟩⟩)⟩, ⟨(blk_put (blk_put (blk_put (blk_put (blk_put BK553.out 6 _ rfl) 7 _ rfl) 3 _ rfl) 4 _ rfl) 5 _ rfl)⟩, ⟨ab10_⟩⟩
       rw [if_neg c25] at H
       have c25b0 : (((rd_T35 l0 x9_1).f0) == 2) = false := beq_eq_false_iff_ne.mpr c25
       have c25b1 : (((rd_T35 l0 x9_1).f0) != 2) = true := bne_iff_ne.mpr c25
       (first | rw [c25b0] | (simp only [i64_w, i32_w]; rw [c25b0]) | skip)
       have H' := am H
       clear H
       obtain ⟨hcz29_0, hcz29_1, hcz29_2, hcz29_3, hcz29_4, hcz29_5, hcz29_6, hcz29_7, hfz29_0, hfz29_1, hfz29_2, hfz29_3, hfz29_4, hfz29_5, hfz29_6, hfz29_7⟩ := bcf8_ BK553.out
       go_wp2
       go_meet
       case rel => exact ⟨_, (false), sd_, H', ⟨by have := HK1.out; first | omega | exact Nat.le_refl _⟩, ⟨by (with_reducible repeat (first | apply Kd.N_alloc | apply Kd.N_drewN | apply Kd.N_drew)); exact Kd.N_mono (Kd.N_far (p := ⟨gb553, 5, none⟩) (Kd.N_far (p := ⟨gb553, 4, none⟩) (Kd.N_far (p := ⟨gb553, 3, none⟩) (Kd.N_far (p := ⟨gb553, 7, none⟩) (Kd.N_far (p := ⟨gb553, 6, none⟩) (Kd.N_mono HO_3.out (fun k_ hk => (⟨hk, hk.1.1.1.2⟩ : _ ∧ k_ ≠ gb553))) (fun _ hk => hk.2) (.slice Ao16 t554.length co16)) (fun _ hk => hk.2) (.slice Ao18 t557.length co18)) (fun _ hk => hk.2) (.int .i64 t560)) (fun _ hk => hk.2) (.int .i64 t561)) (fun _ hk => hk.2) (.slice Ao22 t562.length co22)) (fun _ hk => ⟨hk.1.1.1.1.1, ⟨hk.1.2, ⟨hk.1.1.1.2, ⟨hk.1.1.2, hk.1.1.1.1.2⟩⟩⟩⟩)⟩, ⟨by (with_reducible repeat (first | apply Kd.N_alloc | apply Kd.N_drewN | apply Kd.N_drew)); exact Kd.N_mono (Kd.N_far (p := ⟨gb553, 5, none⟩) (Kd.N_far (p := ⟨gb553, 4, none⟩) (Kd.N_far (p := ⟨gb553, 3, none⟩) (Kd.N_far (p := ⟨gb553, 7, none⟩) (Kd.N_far (p := ⟨gb553, 6, none⟩) (Kd.N_mono HO564.out (fun k_ hk => (⟨hk, hk.2.2.2.2⟩ : _ ∧ k_ ≠ gb553))) (fun _ hk => hk.2) (.slice Ao16 t554.length co16)) (fun _ hk => hk.2) (.slice Ao18 t557.length co18)) (fun _ hk => hk.2) (.int .i64 t560)) (fun _ hk => hk.2) (.int .i64 t561)) (fun _ hk => hk.2) (.slice Ao22 t562.length co22)) (fun _ hk => ⟨hk.1.1, ⟨hk.1.2.1, ⟨hk.1.2.2.1, ⟨hk.1.2.2.2.1, hk.1.2.2.2.2⟩⟩⟩⟩)⟩, ⟨by (with_reducible repeat (first | apply Kd.N_alloc | apply Kd.N_drewN | apply Kd.N_drew)); exact Kd.N_mono (Kd.N_far (p := ⟨gb553, 5, none⟩) (Kd.N_far (p := ⟨gb553, 4, none⟩) (Kd.N_far (p := ⟨gb553, 3, none⟩) (Kd.N_far (p := ⟨gb553, 7, none⟩) (Kd.N_far (p := ⟨gb553, 6, none⟩) (Kd.N_mono HO556.out (fun k_ hk => (⟨hk, hk.1.1.2.2⟩ : _ ∧ k_ ≠ gb553))) (fun _ hk => hk.2) (.slice Ao16 t554.length co16)) (fun _ hk => hk.2) (.slice Ao18 t557.length co18)) (fun _ hk => hk.2) (.int .i64 t560)) (fun _ hk => hk.2) (.int .i64 t561)) (fun _ hk => hk.2) (.slice Ao22 t562.length co22)) (fun _ hk => ⟨hk.1.1.1.1, ⟨hk.1.1.1.2.1, ⟨hk.1.2, ⟨hk.1.1.2, hk.1.1.1.2.2⟩⟩⟩⟩)⟩, ⟨by (with_reducible repeat (first | apply Kd.N_alloc | apply Kd.N_drewN | apply Kd.N_drew)); exact Kd.N_mono (Kd.N_far (p := ⟨gb553, 5, none⟩) (Kd.N_far (p := ⟨gb553, 4, none⟩) (Kd.N_far (p := ⟨gb553, 3, none⟩) (Kd.N_far (p := ⟨gb553, 7, none⟩) (Kd.N_far (p := ⟨gb553, 6, none⟩) (Kd.N_mono HO559.out (fun k_ hk => (⟨hk, hk.1.2.2.2⟩ : _ ∧ k_ ≠ gb553))) (fun _ hk => hk.2) (.slice Ao16 t554.length co16)) (fun _ hk => hk.2) (.slice Ao18 t557.length co18)) (fun _ hk => hk.2) (.int .i64 t560)) (fun _ hk => hk.2) (.int .i64 t561)) (fun _ hk => hk.2) (.slice Ao22 t562.length co22)) (fun _ hk => ⟨hk.1.1.1, ⟨hk.1.1.2.1, ⟨hk.1.2, ⟨hk.1.1.2.2.1, hk.1.1.2.2.2⟩⟩⟩⟩)⟩, ⟨(blk_put (blk_put (blk_put (blk_put (blk_put BK553.out 6 _ rfl) 7 _ rfl) 3 _ rfl) 4 _ rfl) 5 _ rfl)⟩, ⟨ab10_⟩⟩
      case rest =>
       clear HC8
       try clear c2
       try clear c2b0
       try clear c3
       try clear c3b0
       try clear c4
       try clear c4b0
       try clear hcz10_0
       try clear hcz10_1
       try clear hcz10_2
       try clear hcz10_3
       try clear hcz10_4
       try clear hcz10_5
       try clear hcz10_6
       try clear hcz10_7
       try clear hcz24_0
       try clear hcz24_1
       try clear hcz24_2
       try clear hcz24_3
       try clear hcz24_4
       try clear hcz24_5
       try clear hcz24_6
       try clear hcz24_7
       try clear hfz10_0
       try clear hfz10_1
       try clear hfz10_2
       try clear hfz10_3
       try clear hfz10_4
       try clear hfz10_5
       try clear hfz10_6
       try clear hfz10_7
       try clear hfz24_0
       try clear hfz24_1
       try clear hfz24_2
       try clear hfz24_3
       try clear hfz24_4
       try clear hfz24_5
       try clear hfz24_6
       try clear hfz24_7
       try clear hx552_0
       try clear hx552_1
       try clear hx552_2
       try clear hx552_3
       try clear hx552_4
       try clear hx552_5
       try clear hx552_6
       try clear hx552_7
       try clear p552
       try clear q552
       obtain ⟨kq, x33_7, rfl, HA, HJ7, HO_3, HO_554005, HO_554006, HO_554007, BK553, HB⟩ := hcut
       cases kq with
       | zero => exact absurd HA.out (by simp [impl_stmtsFold.j1])
       | succ kj7 =>
        have H := HA.out
        clear HA
        simp only [impl_stmtsFold.j1] at H
        by_cases c30 : x33_7 = true
        ·subst c30
         rw [if_pos rfl] at H
         by_cases c31 : x3_1.length + t554.length < 1256584717458
         ·rw [if_pos c31] at H
          have LMc31 := am c31
          clear c31
          obtain ⟨y565, hy565⟩ : ∃ y_ : List (S35), y_ = (x3_1 ++ t554) := ⟨_, rfl⟩
          replace H : (impl_stmtsFold.l0 kj7 y565 l0 (l0.length : Int) (wrap64 (x9_1 + 1))) = some r := by first | (rw [hy565]; with_reducible exact H) | (have H2_ := (Option.bind_some _ _).symm.trans H; rw [hy565]; with_reducible exact H2_) | (have H2_ := (Option.bind_some _ _).symm.trans H; with_reducible exact H2_) | with_reducible exact H | (rw [hy565]; exact H) | exact H
          have Ny565 := am hy565
          clear hy565
          have H' := am H
          clear H
          obtain ⟨hcz32_0, hcz32_1, hcz32_2, hcz32_3, hcz32_4, hcz32_5, hcz32_6, hcz32_7, hfz32_0, hfz32_1, hfz32_2, hfz32_3, hfz32_4, hfz32_5, hfz32_6, hfz32_7⟩ := bcf8_ BK553.out
          go_wp2_with (first | ((with_reducible refine gate_builtin (b := .append) (xs := #[.tmp 46, .tmp 48]) rfl ?_); at_builtin; refine Kd.N_append_rows k35 (w0 := w) w.heap.size rfl (.tmp 46) (.tmp 48) 23 35 (.agg #[(.int .i64 0), (.int .i64 0), (.int .i64 0), (.int .i64 0), (.int .i64 0), (.slice none 0 0), (.slice none 0 0), (.slice none 0 0)]) 112 rfl Try.underlying23 info35 rfl (by decide) (by omega) u3 x3_1 t554 _ _ _ (fun k_ => (w.heap.size ≤ k_) ∧ some k_ ≠ (.slice Ao22 t562.length co22 : Value).ownBlock ∧ some k_ ≠ (.slice Ao18 t557.length co18 : Value).ownBlock ∧ k_ ≠ gb553) (fun k_ => ((fun k_ => (w.heap.size ≤ k_) ∧ some k_ ≠ (.slice Ao22 t562.length co22 : Value).ownBlock ∧ some k_ ≠ (.slice Ao18 t557.length co18 : Value).ownBlock ∧ k_ ≠ gb553)) k_ ∧ some k_ ≠ (u3 : Value).ownBlock) rfl rfl ?aO ?aR (fun _ hk => hk) ?aF ?aB ?aS ?aL ?_; (case aR => exact (by skip; exact Kd.N_F (Kd.N_mono (ok' := (fun k_ => ((fun k_ => (w.heap.size ≤ k_) ∧ some k_ ≠ (.slice Ao22 t562.length co22 : Value).ownBlock ∧ some k_ ≠ (.slice Ao18 t557.length co18 : Value).ownBlock ∧ k_ ≠ gb553)) k_ ∧ some k_ ≠ (u3 : Value).ownBlock)) (HO_554006.out) (fun k_ hk => ⟨⟨hk.1, ⟨hk.2.2.1, ⟨hk.2.2.2.1, hk.2.2.2.2⟩⟩⟩, hk.2.1⟩)))); (case aB => exact ab10_); (case aF => exact (fun k_ hk => ⟨(Nat.le_trans (below_size ab10_) hk), Kd.fresh' (Kd.N_lt (aN_ HO_554005.out)) k_ hk, Kd.fresh' (Kd.N_lt (aN_ HO_554007.out)) k_ hk, frb_ BK553.out k_ hk⟩)); (case aO => exact (by (with_reducible repeat (first | apply Kd.N_alloc | apply Kd.N_drewN | apply Kd.N_drew)); exact Kd.N_mono HO_3.out (fun _ hk => ⟨hk.1, ⟨hk.2.1, ⟨hk.2.2.2.1, hk.2.2.2.2⟩⟩⟩))); (case aS => exact (below_size ab10_)); (case aL => have := LMc31.out; omega); intro v566 w33 ho hb hg hat; rw [← Ny565.out] at ho; replace HO_554005 := am (Kd.N_afterv (ok := (fun k_ => (w.heap.size ≤ k_) ∧ some k_ ≠ (.slice Ao16 t554.length co16 : Value).ownBlock ∧ some k_ ≠ (.slice Ao18 t557.length co18 : Value).ownBlock ∧ k_ ≠ gb553)) (by (with_reducible repeat (first | apply Kd.N_alloc | apply Kd.N_drewN | apply Kd.N_drew)); exact Kd.N_mono HO_554005.out (fun _ hk => ⟨⟨hk.1, ⟨hk.2.2.1, ⟨hk.2.2.2.1, hk.2.2.2.2⟩⟩⟩, hk.2.1⟩)) hg hat); replace HO_554006 := am (Kd.N_afterv (ok := (fun k_ => (w.heap.size ≤ k_) ∧ some k_ ≠ (.slice Ao22 t562.length co22 : Value).ownBlock ∧ some k_ ≠ (.slice Ao18 t557.length co18 : Value).ownBlock ∧ k_ ≠ gb553)) (by (with_reducible repeat (first | apply Kd.N_alloc | apply Kd.N_drewN | apply Kd.N_drew)); exact Kd.N_mono HO_554006.out (fun _ hk => ⟨⟨hk.1, ⟨hk.2.2.1, ⟨hk.2.2.2.1, hk.2.2.2.2⟩⟩⟩, hk.2.1⟩)) hg hat); replace HO_554007 := am (Kd.N_afterv (ok := (fun k_ => (w.heap.size ≤ k_) ∧ some k_ ≠ (.slice Ao22 t562.length co22 : Value).ownBlock ∧ some k_ ≠ (.slice Ao16 t554.length co16 : Value).ownBlock ∧ k_ ≠ gb553)) (by (with_reducible repeat (first | apply Kd.N_alloc | apply Kd.N_drewN | apply Kd.N_drew)); exact Kd.N_mono HO_554007.out (fun _ hk => ⟨⟨hk.1, ⟨hk.2.2.1, ⟨hk.2.2.2.1, hk.2.2.2.2⟩⟩⟩, hk.2.1⟩)) hg hat); replace BK553 := am (blk_grown (g := gb553) (o := .cells #[.int .i64 ((rd_T35 l0 x9_1).f0), .int .i64 ((rd_T35 l0 x9_1).f1), .int .i64 ((rd_T35 l0 x9_1).f2), .int .i64 t560, .int .i64 t561, .slice Ao22 t562.length co22, .slice Ao16 t554.length co16, .slice Ao18 t557.length co18] 35 (0, 0)) (aG_ BK553.out) hg (Kd.N_away HO_3.out (fun _ hk => hk.2.2.2.2))); replace HB := am (hb); have HO567 := am (ho); clear HO_3 ho hb hg hat))
          go_roundg kj7
          case measure => have := HK1.out; have := HJ7.out; omega
          case rel => exact ⟨(y565), (wrap64 (x9_1 + 1)), sd_, H', ⟨by have := HK1.out; have := HJ7.out; omega⟩, ⟨by (with_reducible repeat (first | apply Kd.N_alloc | apply Kd.N_drewN | apply Kd.N_drew)); exact Kd.N_mono HO567.out (fun _ hk => hk.1)⟩, ⟨ab10_⟩⟩
         rw [if_neg c31] at H
         exact absurd H (by simp)
        replace c30 := Bool.eq_false_iff.mpr c30
        subst c30
        rw [if_neg (show ¬ (false = true) by decide)] at H
        have HC34 := am H
        clear H
        go_upto_region 10 with (fail)
        go_cut [50] (fun v50 wc => ∃ (kq : Nat) (x50_33 : Bool), v50 = .bool x50_33 ∧ Aside0 (impl_stmtsFold.j2 kq x3_1 (t560 == 0) l0 (l0.length : Int) x9_1 x50_33 ((rd_T35 l0 x9_1).f0) ((rd_T35 l0 x9_1).f1) ((rd_T35 l0 x9_1).f2) t560 t561 t562 t554 t557 = some r) ∧ Aside0 (kq ≤ kj7) ∧ Aside0 (Kd.N k35 35 wc w.heap.size (fun k_ => (w.heap.size ≤ k_) ∧ some k_ ≠ ((.slice Ao22 t562.length co22) : Value).ownBlock ∧ some k_ ≠ ((.slice Ao16 t554.length co16) : Value).ownBlock ∧ some k_ ≠ ((.slice Ao18 t557.length co18) : Value).ownBlock ∧ k_ ≠ gb553) u3 x3_1) ∧ Aside0 (Kd.N k32 32 wc w.heap.size (fun k_ => (w.heap.size ≤ k_) ∧ some k_ ≠ (u3 : Value).ownBlock ∧ some k_ ≠ ((.slice Ao16 t554.length co16) : Value).ownBlock ∧ some k_ ≠ ((.slice Ao18 t557.length co18) : Value).ownBlock ∧ k_ ≠ gb553) (.slice Ao22 t562.length co22) t562) ∧ Aside0 (Kd.N k35 35 wc w.heap.size (fun k_ => (w.heap.size ≤ k_) ∧ some k_ ≠ (u3 : Value).ownBlock ∧ some k_ ≠ ((.slice Ao22 t562.length co22) : Value).ownBlock ∧ some k_ ≠ ((.slice Ao18 t557.length co18) : Value).ownBlock ∧ k_ ≠ gb553) (.slice Ao16 t554.length co16) t554) ∧ Aside0 (Kd.N k35 35 wc w.heap.size (fun k_ => (w.heap.size ≤ k_) ∧ some k_ ≠ (u3 : Value).ownBlock ∧ some k_ ≠ ((.slice Ao22 t562.length co22) : Value).ownBlock ∧ some k_ ≠ ((.slice Ao16 t554.length co16) : Value).ownBlock ∧ k_ ≠ gb553) (.slice Ao18 t557.length co18) t557) ∧ Aside0 (wc.heap[gb553]? = some (.cells #[.int .i64 ((rd_T35 l0 x9_1).f0), .int .i64 ((rd_T35 l0 x9_1).f1), .int .i64 ((rd_T35 l0 x9_1).f2), .int .i64 t560, .int .i64 t561, (.slice Ao22 t562.length co22), (.slice Ao16 t554.length co16), (.slice Ao18 t557.length co18)] 35 (0, 0))) ∧ Aside0 (Below w.heap.size w wc))
        case first =>
         have H := HC34.out
         clear HC34
         by_cases c35 : ((rd_T35 l0 x9_1).f0) = 2
         ·rw [if_pos c35] at H
          have c35b0 : (((rd_T35 l0 x9_1).f0) == 2) = true := beq_iff_eq.mpr c35
          have c35b1 : (((rd_T35 l0 x9_1).f0) != 2) = false := bne_eq_false_iff_eq.mpr c35
          clear c35
          (first | rw [c35b0] | (simp only [i64_w, i32_w]; rw [c35b0]) | skip)
          have H' := am H
          clear H
          obtain ⟨hcz36_0, hcz36_1, hcz36_2, hcz36_3, hcz36_4, hcz36_5, hcz36_6, hcz36_7, hfz36_0, hfz36_1, hfz36_2, hfz36_3, hfz36_4, hfz36_5, hfz36_6, hfz36_7⟩ := bcf8_ BK553.out
          go_wp2
          go_meet
          case rel => exact ⟨_, ((t560 == 0)), sd_, H', ⟨by have := HK1.out; have := HJ7.out; first | omega | exact Nat.le_refl _⟩, ⟨by (with_reducible repeat (first | apply Kd.N_alloc | apply Kd.N_drewN | apply Kd.N_drew)); exact HO_3.out⟩, ⟨by (with_reducible repeat (first | apply Kd.N_alloc | apply Kd.N_drewN | apply Kd.N_drew)); exact HO_554005.out⟩, ⟨by (with_reducible repeat (first | apply Kd.N_alloc | apply Kd.N_drewN | apply Kd.N_drew)); exact HO_554006.out⟩, ⟨by (with_reducible repeat (first | apply Kd.N_alloc | apply Kd.N_drewN | apply Kd.N_drew)); exact HO_554007.out⟩, ⟨by (with_reducible repeat (first | refine blk_drewN ?_ _ | refine blk_drew ?_ | refine blk_alloc ?_ _)); exact BK553.out⟩, ⟨ab10_⟩⟩
         rw [if_neg c35] at H
         have c35b0 : (((rd_T35 l0 x9_1).f0) == 2) = false := beq_eq_false_iff_ne.mpr c35
         have c35b1 : (((rd_T35 l0 x9_1).f0) != 2) = true := bne_iff_ne.mpr c35
         (first | rw [c35b0] | (simp only [i64_w, i32_w]; rw [c35b0]) | skip)
         have H' := am H
         clear H
         obtain ⟨hcz37_0, hcz37_1, hcz37_2, hcz37_3, hcz37_4, hcz37_5, hcz37_6, hcz37_7, hfz37_0, hfz37_1, hfz37_2, hfz37_3, hfz37_4, hfz37_5, hfz37_6, hfz37_7⟩ := bcf8_ BK553.out
         go_wp2
         go_meet
         case rel => exact ⟨_, (false), sd_, H', ⟨by have := HK1.out; have := HJ7.out; first | omega | exact Nat.le_refl _⟩, ⟨by (with_reducible repeat (first | apply Kd.N_alloc | apply Kd.N_drewN | apply Kd.N_drew)); exact HO_3.out⟩, ⟨by (with_reducible repeat (first | apply Kd.N_alloc | apply Kd.N_drewN | apply Kd.N_drew)); exact HO_554005.out⟩, ⟨by (with_reducible repeat (first | apply Kd.N_alloc | apply Kd.N_drewN | apply Kd.N_drew)); exact HO_554006.out⟩, ⟨by (with_reducible repeat (first | apply Kd.N_alloc | apply Kd.N_drewN | apply Kd.N_drew)); exact HO_554007.out⟩, ⟨by (with_reducible repeat (first | refine blk_drewN ?_ _ | refine blk_drew ?_ | refine blk_alloc ?_ _)); exact BK553.out⟩, ⟨ab10_⟩⟩
        case rest =>
         clear HC34
         try clear c2
         try clear c2b0
         try clear c3
         try clear c3b0
         try clear c4
         try clear c4b0
         try clear c30
         try clear hcz10_0
         try clear hcz10_1
         try clear hcz10_2
         try clear hcz10_3
         try clear hcz10_4
         try clear hcz10_5
         try clear hcz10_6
         try clear hcz10_7
         try clear hcz24_0
         try clear hcz24_1
         try clear hcz24_2
         try clear hcz24_3
         try clear hcz24_4
         try clear hcz24_5
         try clear hcz24_6
         try clear hcz24_7
         try clear hfz10_0
         try clear hfz10_1
         try clear hfz10_2
         try clear hfz10_3
         try clear hfz10_4
         try clear hfz10_5
         try clear hfz10_6
         try clear hfz10_7
         try clear hfz24_0
         try clear hfz24_1
         try clear hfz24_2
         try clear hfz24_3
         try clear hfz24_4
         try clear hfz24_5
         try clear hfz24_6
         try clear hfz24_7
         try clear hx552_0
         try clear hx552_1
         try clear hx552_2
         try clear hx552_3
         try clear hx552_4
         try clear hx552_5
         try clear hx552_6
         try clear hx552_7
         try clear p552
         try clear q552
         obtain ⟨kq, x50_33, rfl, HA, HJ33, HO_3, HO_554005, HO_554006, HO_554007, BK553, HB⟩ := hcut
         cases kq with
         | zero => exact absurd HA.out (by simp [impl_stmtsFold.j2])
         | succ kj33 =>
          have H := HA.out
          clear HA
          simp only [impl_stmtsFold.j2] at H
          by_cases c38 : x50_33 = true
          ·subst c38
           rw [if_pos rfl] at H
           by_cases c39 : x3_1.length + t557.length < 1256584717458
           ·rw [if_pos c39] at H
            have LMc39 := am c39
            clear c39
            obtain ⟨y568, hy568⟩ : ∃ y_ : List (S35), y_ = (x3_1 ++ t557) := ⟨_, rfl⟩
            replace H : (impl_stmtsFold.l0 kj33 y568 l0 (l0.length : Int) (wrap64 (x9_1 + 1))) = some r := by first | (rw [hy568]; with_reducible exact H) | (have H2_ := (Option.bind_some _ _).symm.trans H; rw [hy568]; with_reducible exact H2_) | (have H2_ := (Option.bind_some _ _).symm.trans H; with_reducible exact H2_) | with_reducible exact H | (rw [hy568]; exact H) | exact H
            have Ny568 := am hy568
            clear hy568
            have H' := am H
            clear H
            obtain ⟨hcz40_0, hcz40_1, hcz40_2, hcz40_3, hcz40_4, hcz40_5, hcz40_6, hcz40_7, hfz40_0, hfz40_1, hfz40_2, hfz40_3, hfz40_4, hfz40_5, hfz40_6, hfz40_7⟩ := bcf8_ BK553.out
            go_wp2_with (first | ((with_reducible refine gate_builtin (b := .append) (xs := #[.tmp 57, .tmp 59]) rfl ?_); at_builtin; refine Kd.N_append_rows k35 (w0 := w) w.heap.size rfl (.tmp 57) (.tmp 59) 23 35 (.agg #[(.int .i64 0), (.int .i64 0), (.int .i64 0), (.int .i64 0), (.int .i64 0), (.slice none 0 0), (.slice none 0 0), (.slice none 0 0)]) 112 rfl Try.underlying23 info35 rfl (by decide) (by omega) u3 x3_1 t557 _ _ _ (fun k_ => (w.heap.size ≤ k_) ∧ some k_ ≠ (.slice Ao22 t562.length co22 : Value).ownBlock ∧ some k_ ≠ (.slice Ao16 t554.length co16 : Value).ownBlock ∧ k_ ≠ gb553) (fun k_ => ((fun k_ => (w.heap.size ≤ k_) ∧ some k_ ≠ (.slice Ao22 t562.length co22 : Value).ownBlock ∧ some k_ ≠ (.slice Ao16 t554.length co16 : Value).ownBlock ∧ k_ ≠ gb553)) k_ ∧ some k_ ≠ (u3 : Value).ownBlock) rfl rfl ?aO ?aR (fun _ hk => hk) ?aF ?aB ?aS ?aL ?_; (case aR => exact (by skip; exact Kd.N_F (Kd.N_mono (ok' := (fun k_ => ((fun k_ => (w.heap.size ≤ k_) ∧ some k_ ≠ (.slice Ao22 t562.length co22 : Value).ownBlock ∧ some k_ ≠ (.slice Ao16 t554.length co16 : Value).ownBlock ∧ k_ ≠ gb553)) k_ ∧ some k_ ≠ (u3 : Value).ownBlock)) (HO_554007.out) (fun k_ hk => ⟨⟨hk.1, ⟨hk.2.2.1, ⟨hk.2.2.2.1, hk.2.2.2.2⟩⟩⟩, hk.2.1⟩)))); (case aB => exact ab10_); (case aF => exact (fun k_ hk => ⟨(Nat.le_trans (below_size ab10_) hk), Kd.fresh' (Kd.N_lt (aN_ HO_554005.out)) k_ hk, Kd.fresh' (Kd.N_lt (aN_ HO_554006.out)) k_ hk, frb_ BK553.out k_ hk⟩)); (case aO => exact (by (with_reducible repeat (first | apply Kd.N_alloc | apply Kd.N_drewN | apply Kd.N_drew)); exact Kd.N_mono HO_3.out (fun _ hk => ⟨hk.1, ⟨hk.2.1, ⟨hk.2.2.1, hk.2.2.2.2⟩⟩⟩))); (case aS => exact (below_size ab10_)); (case aL => have := LMc39.out; omega); intro v569 w41 ho hb hg hat; rw [← Ny568.out] at ho; replace HO_554005 := am (Kd.N_afterv (ok := (fun k_ => (w.heap.size ≤ k_) ∧ some k_ ≠ (.slice Ao16 t554.length co16 : Value).ownBlock ∧ some k_ ≠ (.slice Ao18 t557.length co18 : Value).ownBlock ∧ k_ ≠ gb553)) (by (with_reducible repeat (first | apply Kd.N_alloc | apply Kd.N_drewN | apply Kd.N_drew)); exact Kd.N_mono HO_554005.out (fun _ hk => ⟨⟨hk.1, ⟨hk.2.2.1, ⟨hk.2.2.2.1, hk.2.2.2.2⟩⟩⟩, hk.2.1⟩)) hg hat); replace HO_554006 := am (Kd.N_afterv (ok := (fun k_ => (w.heap.size ≤ k_) ∧ some k_ ≠ (.slice Ao22 t562.length co22 : Value).ownBlock ∧ some k_ ≠ (.slice Ao18 t557.length co18 : Value).ownBlock ∧ k_ ≠ gb553)) (by (with_reducible repeat (first | apply Kd.N_alloc | apply Kd.N_drewN | apply Kd.N_drew)); exact Kd.N_mono HO_554006.out (fun _ hk => ⟨⟨hk.1, ⟨hk.2.2.1, ⟨hk.2.2.2.1, hk.2.2.2.2⟩⟩⟩, hk.2.1⟩)) hg hat); replace HO_554007 := am (Kd.N_afterv (ok := (fun k_ => (w.heap.size ≤ k_) ∧ some k_ ≠ (.slice Ao22 t562.length co22 : Value).ownBlock ∧ some k_ ≠ (.slice Ao16 t554.length co16 : Value).ownBlock ∧ k_ ≠ gb553)) (by (with_reducible repeat (first | apply Kd.N_alloc | apply Kd.N_drewN | apply Kd.N_drew)); exact Kd.N_mono HO_554007.out (fun _ hk => ⟨⟨hk.1, ⟨hk.2.2.1, ⟨hk.2.2.2.1, hk.2.2.2.2⟩⟩⟩, hk.2.1⟩)) hg hat); replace BK553 := am (blk_grown (g := gb553) (o := .cells #[.int .i64 ((rd_T35 l0 x9_1).f0), .int .i64 ((rd_T35 l0 x9_1).f1), .int .i64 ((rd_T35 l0 x9_1).f2), .int .i64 t560, .int .i64 t561, .slice Ao22 t562.length co22, .slice Ao16 t554.length co16, .slice Ao18 t557.length co18] 35 (0, 0)) (aG_ BK553.out) hg (Kd.N_away HO_3.out (fun _ hk => hk.2.2.2.2))); replace HB := am (hb); have HO570 := am (ho); clear HO_3 ho hb hg hat))
            go_roundg kj33
            case measure => have := HK1.out; have := HJ7.out; have := HJ33.out; omega
            case rel => exact ⟨(y568), (wrap64 (x9_1 + 1)), sd_, H', ⟨by have := HK1.out; have := HJ7.out; have := HJ33.out; omega⟩, ⟨by (with_reducible repeat (first | apply Kd.N_alloc | apply Kd.N_drewN | apply Kd.N_drew)); exact Kd.N_mono HO570.out (fun _ hk => hk.1)⟩, ⟨ab10_⟩⟩
           rw [if_neg c39] at H
           exact absurd H (by simp)
          replace c38 := Bool.eq_false_iff.mpr c38
          subst c38
          rw [if_neg (show ¬ (false = true) by decide)] at H
          by_cases c42 : ((rd_T35 l0 x9_1).f0) = 3
          ·rw [if_pos c42] at H
           have c42b0 : (((rd_T35 l0 x9_1).f0) == 3) = true := beq_iff_eq.mpr c42
           have c42b1 : (((rd_T35 l0 x9_1).f0) != 3) = false := bne_eq_false_iff_eq.mpr c42
           clear c42
           by_cases c43 : (t560 == 0) = true
           ·rw [if_pos c43] at H
            have c43b0 : (t560 == 0) = true := c43
            (try (have c43b1 : decide (t560 = 0) = true := by simpa using c43))
            (try (have c43b2 : (t560 == 0) = true := by simpa using c43))
            clear c43
            by_cases c44 : t561 = 0
            ·rw [if_pos c44] at H
             have c44b0 : (t561 == 0) = true := beq_iff_eq.mpr c44
             have c44b1 : (t561 != 0) = false := bne_eq_false_iff_eq.mpr c44
             clear c44
             have H' := am H
             clear H
             obtain ⟨hcz45_0, hcz45_1, hcz45_2, hcz45_3, hcz45_4, hcz45_5, hcz45_6, hcz45_7, hfz45_0, hfz45_1, hfz45_2, hfz45_3, hfz45_4, hfz45_5, hfz45_6, hfz45_7⟩ := bcf8_ BK553.out
             go_wp2
             go_roundg kj33
             case measure => have := HK1.out; have := HJ7.out; have := HJ33.out; omega
             case rel => exact ⟨(x3_1), (wrap64 (x9_1 + 1)), sd_, H', ⟨by have := HK1.out; have := HJ7.out; have := HJ33.out; omega⟩, ⟨by (with_reducible repeat (first | apply Kd.N_alloc | apply Kd.N_drewN | apply Kd.N_drew)); exact Kd.N_mono HO_3.out (fun _ hk => hk.1)⟩, ⟨ab10_⟩⟩
            rw [if_neg c44] at H
            have c44b0 : (t561 == 0) = false := beq_eq_false_iff_ne.mpr c44
            have c44b1 : (t561 != 0) = true := bne_iff_ne.mpr c44
            by_cases c46 : x3_1.length < 1256584717458
            ·rw [if_pos c46] at H
             have LMc46 := am c46
             clear c46
             obtain ⟨y571, hy571⟩ : ∃ y_ : List (S35), y_ = (x3_1 ++ [(⟨((rd_T35 l0 x9_1).f0), ((rd_T35 l0 x9_1).f1), ((rd_T35 l0 x9_1).f2), (⟨t560, t561, t562⟩ : S32), t554, t557⟩ : S35)]) := ⟨_, rfl⟩
             replace H : (impl_stmtsFold.l0 kj33 y571 l0 (l0.length : Int) (wrap64 (x9_1 + 1))) = some r := by first | (rw [hy571]; with_reducible exact H) | (have H2_ := (Option.bind_some _ _).symm.trans H; rw [hy571]; with_reducible exact H2_) | (have H2_ := (Option.bind_some _ _).symm.trans H; with_reducible exact H2_) | with_reducible exact H | (rw [hy571]; exact H) | exact H
             have Ny571 := am hy571
             clear hy571
             have H' := am H
             clear H
             obtain ⟨hcz47_0, hcz47_1, hcz47_2, hcz47_3, hcz47_4, hcz47_5, hcz47_6, hcz47_7, hfz47_0, hfz47_1, hfz47_2, hfz47_3, hfz47_4, hfz47_5, hfz47_6, hfz47_7⟩ := bcf8_ BK553.out
             go_wp2_with (first | ((with_reducible refine gate_builtin (b := .append) (xs := #[.tmp 29, .tmp 31]) rfl ?_); at_builtin; refine Kd.N_append k35 (w0 := w) w.heap.size rfl (.tmp 29) (.tmp 31) 23 35 (.agg #[(.int .i64 0), (.int .i64 0), (.int .i64 0), (.int .i64 0), (.int .i64 0), (.slice none 0 0), (.slice none 0 0), (.slice none 0 0)]) 112 rfl Try.underlying23 info35 rfl (by decide) (by omega) u3 x3_1 (⟨((rd_T35 l0 x9_1).f0), ((rd_T35 l0 x9_1).f1), ((rd_T35 l0 x9_1).f2), (⟨t560, t561, t562⟩ : S32), t554, t557⟩ : S35) [.int .i64 ((rd_T35 l0 x9_1).f0), .int .i64 ((rd_T35 l0 x9_1).f1), .int .i64 ((rd_T35 l0 x9_1).f2), .int .i64 t560, .int .i64 t561, .slice Ao22 t562.length co22, .slice Ao16 t554.length co16, .slice Ao18 t557.length co18] (fun k_ => (w.heap.size ≤ k_) ∧ k_ ≠ gb553) (fun k_ => ((fun k_ => (w.heap.size ≤ k_) ∧ k_ ≠ gb553)) k_ ∧ some k_ ≠ (u3 : Value).ownBlock) rfl rfl ?aP (fun _ hk => hk) ?aF ?aO ?aB ?aS ?aL ?_; (case aP => exact (k35_mkF _ _ (⟨((rd_T35 l0 x9_1).f0), ((rd_T35 l0 x9_1).f1), ((rd_T35 l0 x9_1).f2), (⟨t560, t561, t562⟩ : S32), t554, t557⟩ : S35) (Kd.N_reads' (Kd.N_mono (ok' := (fun k_ => ((fun k_ => (w.heap.size ≤ k_) ∧ k_ ≠ gb553)) k_ ∧ some k_ ≠ (u3 : Value).ownBlock)) (HO_554005.out) (fun k_ hk => ⟨⟨hk.1, hk.2.2.2.2⟩, hk.2.1⟩))).2.1 (Kd.N_F (Kd.N_mono (ok' := (fun k_ => ((fun k_ => (w.heap.size ≤ k_) ∧ k_ ≠ gb553)) k_ ∧ some k_ ≠ (u3 : Value).ownBlock)) (HO_554005.out) (fun k_ hk => ⟨⟨hk.1, hk.2.2.2.2⟩, hk.2.1⟩))) (Kd.N_reads' (Kd.N_mono (ok' := (fun k_ => ((fun k_ => (w.heap.size ≤ k_) ∧ k_ ≠ gb553)) k_ ∧ some k_ ≠ (u3 : Value).ownBlock)) (HO_554006.out) (fun k_ hk => ⟨⟨hk.1, hk.2.2.2.2⟩, hk.2.1⟩))).2.1 (Kd.N_F (Kd.N_mono (ok' := (fun k_ => ((fun k_ => (w.heap.size ≤ k_) ∧ k_ ≠ gb553)) k_ ∧ some k_ ≠ (u3 : Value).ownBlock)) (HO_554006.out) (fun k_ hk => ⟨⟨hk.1, hk.2.2.2.2⟩, hk.2.1⟩))) (Kd.N_reads' (Kd.N_mono (ok' := (fun k_ => ((fun k_ => (w.heap.size ≤ k_) ∧ k_ ≠ gb553)) k_ ∧ some k_ ≠ (u3 : Value).ownBlock)) (HO_554007.out) (fun k_ hk => ⟨⟨hk.1, hk.2.2.2.2⟩, hk.2.1⟩))).2.1 (Kd.N_F (Kd.N_mono (ok' := (fun k_ => ((fun k_ => (w.heap.size ≤ k_) ∧ k_ ≠ gb553)) k_ ∧ some k_ ≠ (u3 : Value).ownBlock)) (HO_554007.out) (fun k_ hk => ⟨⟨hk.1, hk.2.2.2.2⟩, hk.2.1⟩))))); (case aB => exact ab10_); (case aF => exact (fun k_ hk => ⟨(Nat.le_trans (below_size ab10_) hk), frb_ BK553.out k_ hk⟩)); (case aO => exact (by (with_reducible repeat (first | apply Kd.N_alloc | apply Kd.N_drewN | apply Kd.N_drew)); exact Kd.N_mono HO_3.out (fun _ hk => ⟨hk.1, hk.2.2.2.2⟩))); (case aS => exact (below_size ab10_)); (case aL => have := LMc46.out; omega); intro v572 w48 ho hb hg hat; rw [← Ny571.out] at ho; replace BK553 := am (blk_grown (g := gb553) (o := .cells #[.int .i64 ((rd_T35 l0 x9_1).f0), .int .i64 ((rd_T35 l0 x9_1).f1), .int .i64 ((rd_T35 l0 x9_1).f2), .int .i64 t560, .int .i64 t561, .slice Ao22 t562.length co22, .slice Ao16 t554.length co16, .slice Ao18 t557.length co18] 35 (0, 0)) (aG_ BK553.out) hg (Kd.N_away HO_3.out (fun _ hk => hk.2.2.2.2))); replace HB := am (hb); have HO573 := am (ho); clear HO_3 HO_554005 HO_554006 HO_554007 ho hb hg hat))
             go_roundg kj33
             case measure => have := HK1.out; have := HJ7.out; have := HJ33.out; omega
             case rel => exact ⟨(y571), (wrap64 (x9_1 + 1)), sd_, H', ⟨by have := HK1.out; have := HJ7.out; have := HJ33.out; omega⟩, ⟨by (with_reducible repeat (first | apply Kd.N_alloc | apply Kd.N_drewN | apply Kd.N_drew)); exact Kd.N_mono HO573.out (fun _ hk => hk.1)⟩, ⟨ab10_⟩⟩
            rw [if_neg c46] at H
            exact absurd H (by simp)
           rw [if_neg c43] at H
           have c43b0 : (t560 == 0) = false := by simpa using c43
           (try (have c43b1 : decide (t560 = 0) = false := by simpa using c43))
           (try (have c43b2 : (t560 == 0) = false := by simpa using c43))
           (try (have c43b3 : ¬ (t560 = 0) := by simpa using c43))
           clear c43
           by_cases c49 : x3_1.length < 1256584717458
           ·rw [if_pos c49] at H
            have LMc49 := am c49
            clear c49
            obtain ⟨y574, hy574⟩ : ∃ y_ : List (S35), y_ = (x3_1 ++ [(⟨((rd_T35 l0 x9_1).f0), ((rd_T35 l0 x9_1).f1), ((rd_T35 l0 x9_1).f2), (⟨t560, t561, t562⟩ : S32), t554, t557⟩ : S35)]) := ⟨_, rfl⟩
            replace H : (impl_stmtsFold.l0 kj33 y574 l0 (l0.length : Int) (wrap64 (x9_1 + 1))) = some r := by first | (rw [hy574]; with_reducible exact H) | (have H2_ := (Option.bind_some _ _).symm.trans H; rw [hy574]; with_reducible exact H2_) | (have H2_ := (Option.bind_some _ _).symm.trans H; with_reducible exact H2_) | with_reducible exact H | (rw [hy574]; exact H) | exact H
            have Ny574 := am hy574
            clear hy574
            have H' := am H
            clear H
            obtain ⟨hcz50_0, hcz50_1, hcz50_2, hcz50_3, hcz50_4, hcz50_5, hcz50_6, hcz50_7, hfz50_0, hfz50_1, hfz50_2, hfz50_3, hfz50_4, hfz50_5, hfz50_6, hfz50_7⟩ := bcf8_ BK553.out
            go_wp2_with (first | ((with_reducible refine gate_builtin (b := .append) (xs := #[.tmp 29, .tmp 31]) rfl ?_); at_builtin; refine Kd.N_append k35 (w0 := w) w.heap.size rfl (.tmp 29) (.tmp 31) 23 35 (.agg #[(.int .i64 0), (.int .i64 0), (.int .i64 0), (.int .i64 0), (.int .i64 0), (.slice none 0 0), (.slice none 0 0), (.slice none 0 0)]) 112 rfl Try.underlying23 info35 rfl (by decide) (by omega) u3 x3_1 (⟨((rd_T35 l0 x9_1).f0), ((rd_T35 l0 x9_1).f1), ((rd_T35 l0 x9_1).f2), (⟨t560, t561, t562⟩ : S32), t554, t557⟩ : S35) [.int .i64 ((rd_T35 l0 x9_1).f0), .int .i64 ((rd_T35 l0 x9_1).f1), .int .i64 ((rd_T35 l0 x9_1).f2), .int .i64 t560, .int .i64 t561, .slice Ao22 t562.length co22, .slice Ao16 t554.length co16, .slice Ao18 t557.length co18] (fun k_ => (w.heap.size ≤ k_) ∧ k_ ≠ gb553) (fun k_ => ((fun k_ => (w.heap.size ≤ k_) ∧ k_ ≠ gb553)) k_ ∧ some k_ ≠ (u3 : Value).ownBlock) rfl rfl ?aP (fun _ hk => hk) ?aF ?aO ?aB ?aS ?aL ?_; (case aP => exact (k35_mkF _ _ (⟨((rd_T35 l0 x9_1).f0), ((rd_T35 l0 x9_1).f1), ((rd_T35 l0 x9_1).f2), (⟨t560, t561, t562⟩ : S32), t554, t557⟩ : S35) (Kd.N_reads' (Kd.N_mono (ok' := (fun k_ => ((fun k_ => (w.heap.size ≤ k_) ∧ k_ ≠ gb553)) k_ ∧ some k_ ≠ (u3 : Value).ownBlock)) (HO_554005.out) (fun k_ hk => ⟨⟨hk.1, hk.2.2.2.2⟩, hk.2.1⟩))).2.1 (Kd.N_F (Kd.N_mono (ok' := (fun k_ => ((fun k_ => (w.heap.size ≤ k_) ∧ k_ ≠ gb553)) k_ ∧ some k_ ≠ (u3 : Value).ownBlock)) (HO_554005.out) (fun k_ hk => ⟨⟨hk.1, hk.2.2.2.2⟩, hk.2.1⟩))) (Kd.N_reads' (Kd.N_mono (ok' := (fun k_ => ((fun k_ => (w.heap.size ≤ k_) ∧ k_ ≠ gb553)) k_ ∧ some k_ ≠ (u3 : Value).ownBlock)) (HO_554006.out) (fun k_ hk => ⟨⟨hk.1, hk.2.2.2.2⟩, hk.2.1⟩))).2.1 (Kd.N_F (Kd.N_mono (ok' := (fun k_ => ((fun k_ => (w.heap.size ≤ k_) ∧ k_ ≠ gb553)) k_ ∧ some k_ ≠ (u3 : Value).ownBlock)) (HO_554006.out) (fun k_ hk => ⟨⟨hk.1, hk.2.2.2.2⟩, hk.2.1⟩))) (Kd.N_reads' (Kd.N_mono (ok' := (fun k_ => ((fun k_ => (w.heap.size ≤ k_) ∧ k_ ≠ gb553)) k_ ∧ some k_ ≠ (u3 : Value).ownBlock)) (HO_554007.out) (fun k_ hk => ⟨⟨hk.1, hk.2.2.2.2⟩, hk.2.1⟩))).2.1 (Kd.N_F (Kd.N_mono (ok' := (fun k_ => ((fun k_ => (w.heap.size ≤ k_) ∧ k_ ≠ gb553)) k_ ∧ some k_ ≠ (u3 : Value).ownBlock)) (HO_554007.out) (fun k_ hk => ⟨⟨hk.1, hk.2.2.2.2⟩, hk.2.1⟩))))); (case aB => exact ab10_); (case aF => exact (fun k_ hk => ⟨(Nat.le_trans (below_size ab10_) hk), frb_ BK553.out k_ hk⟩)); (case aO => exact (by (with_reducible repeat (first | apply Kd.N_alloc | apply Kd.N_drewN | apply Kd.N_drew)); exact Kd.N_mono HO_3.out (fun _ hk => ⟨hk.1, hk.2.2.2.2⟩))); (case aS => exact (below_size ab10_)); (case aL => have := LMc49.out; omega); intro v575 w51 ho hb hg hat; rw [← Ny574.out] at ho; replace BK553 := am (blk_grown (g := gb553) (o := .cells #[.int .i64 ((rd_T35 l0 x9_1).f0), .int .i64 ((rd_T35 l0 x9_1).f1), .int .i64 ((rd_T35 l0 x9_1).f2), .int .i64 t560, .int .i64 t561, .slice Ao22 t562.length co22, .slice Ao16 t554.length co16, .slice Ao18 t557.length co18] 35 (0, 0)) (aG_ BK553.out) hg (Kd.N_away HO_3.out (fun _ hk => hk.2.2.2.2))); replace HB := am (hb); have HO576 := am (ho); clear HO_3 HO_554005 HO_554006 HO_554007 ho hb hg hat))
            go_roundg kj33
            case measure => have := HK1.out; have := HJ7.out; have := HJ33.out; omega
            case rel => exact ⟨(y574), (wrap64 (x9_1 + 1)), sd_, H', ⟨by have := HK1.out; have := HJ7.out; have := HJ33.out; omega⟩, ⟨by (with_reducible repeat (first | apply Kd.N_alloc | apply Kd.N_drewN | apply Kd.N_drew)); exact Kd.N_mono HO576.out (fun _ hk => hk.1)⟩, ⟨ab10_⟩⟩
           rw [if_neg c49] at H
           exact absurd H (by simp)
          rw [if_neg c42] at H
          have c42b0 : (((rd_T35 l0 x9_1).f0) == 3) = false := beq_eq_false_iff_ne.mpr c42
          have c42b1 : (((rd_T35 l0 x9_1).f0) != 3) = true := bne_iff_ne.mpr c42
          by_cases c52 : x3_1.length < 1256584717458
          ·rw [if_pos c52] at H
           have LMc52 := am c52
           clear c52
           obtain ⟨y577, hy577⟩ : ∃ y_ : List (S35), y_ = (x3_1 ++ [(⟨((rd_T35 l0 x9_1).f0), ((rd_T35 l0 x9_1).f1), ((rd_T35 l0 x9_1).f2), (⟨t560, t561, t562⟩ : S32), t554, t557⟩ : S35)]) := ⟨_, rfl⟩
           replace H : (impl_stmtsFold.l0 kj33 y577 l0 (l0.length : Int) (wrap64 (x9_1 + 1))) = some r := by first | (rw [hy577]; with_reducible exact H) | (have H2_ := (Option.bind_some _ _).symm.trans H; rw [hy577]; with_reducible exact H2_) | (have H2_ := (Option.bind_some _ _).symm.trans H; with_reducible exact H2_) | with_reducible exact H | (rw [hy577]; exact H) | exact H
           have Ny577 := am hy577
           clear hy577
           have H' := am H
           clear H
           obtain ⟨hcz53_0, hcz53_1, hcz53_2, hcz53_3, hcz53_4, hcz53_5, hcz53_6, hcz53_7, hfz53_0, hfz53_1, hfz53_2, hfz53_3, hfz53_4, hfz53_5, hfz53_6, hfz53_7⟩ := bcf8_ BK553.out
           go_wp2_with (first | ((with_reducible refine gate_builtin (b := .append) (xs := #[.tmp 29, .tmp 31]) rfl ?_); at_builtin; refine Kd.N_append k35 (w0 := w) w.heap.size rfl (.tmp 29) (.tmp 31) 23 35 (.agg #[(.int .i64 0), (.int .i64 0), (.int .i64 0), (.int .i64 0), (.int .i64 0), (.slice none 0 0), (.slice none 0 0), (.slice none 0 0)]) 112 rfl Try.underlying23 info35 rfl (by decide) (by omega) u3 x3_1 (⟨((rd_T35 l0 x9_1).f0), ((rd_T35 l0 x9_1).f1), ((rd_T35 l0 x9_1).f2), (⟨t560, t561, t562⟩ : S32), t554, t557⟩ : S35) [.int .i64 ((rd_T35 l0 x9_1).f0), .int .i64 ((rd_T35 l0 x9_1).f1), .int .i64 ((rd_T35 l0 x9_1).f2), .int .i64 t560, .int .i64 t561, .slice Ao22 t562.length co22, .slice Ao16 t554.length co16, .slice Ao18 t557.length co18] (fun k_ => (w.heap.size ≤ k_) ∧ k_ ≠ gb553) (fun k_ => ((fun k_ => (w.heap.size ≤ k_) ∧ k_ ≠ gb553)) k_ ∧ some k_ ≠ (u3 : Value).ownBlock) rfl rfl ?aP (fun _ hk => hk) ?aF ?aO ?aB ?aS ?aL ?_; (case aP => exact (k35_mkF _ _ (⟨((rd_T35 l0 x9_1).f0), ((rd_T35 l0 x9_1).f1), ((rd_T35 l0 x9_1).f2), (⟨t560, t561, t562⟩ : S32), t554, t557⟩ : S35) (Kd.N_reads' (Kd.N_mono (ok' := (fun k_ => ((fun k_ => (w.heap.size ≤ k_) ∧ k_ ≠ gb553)) k_ ∧ some k_ ≠ (u3 : Value).ownBlock)) (HO_554005.out) (fun k_ hk => ⟨⟨hk.1, hk.2.2.2.2⟩, hk.2.1⟩))).2.1 (Kd.N_F (Kd.N_mono (ok' := (fun k_ => ((fun k_ => (w.heap.size ≤ k_) ∧ k_ ≠ gb553)) k_ ∧ some k_ ≠ (u3 : Value).ownBlock)) (HO_554005.out) (fun k_ hk => ⟨⟨hk.1, hk.2.2.2.2⟩, hk.2.1⟩))) (Kd.N_reads' (Kd.N_mono (ok' := (fun k_ => ((fun k_ => (w.heap.size ≤ k_) ∧ k_ ≠ gb553)) k_ ∧ some k_ ≠ (u3 : Value).ownBlock)) (HO_554006.out) (fun k_ hk => ⟨⟨hk.1, hk.2.2.2.2⟩, hk.2.1⟩))).2.1 (Kd.N_F (Kd.N_mono (ok' := (fun k_ => ((fun k_ => (w.heap.size ≤ k_) ∧ k_ ≠ gb553)) k_ ∧ some k_ ≠ (u3 : Value).ownBlock)) (HO_554006.out) (fun k_ hk => ⟨⟨hk.1, hk.2.2.2.2⟩, hk.2.1⟩))) (Kd.N_reads' (Kd.N_mono (ok' := (fun k_ => ((fun k_ => (w.heap.size ≤ k_) ∧ k_ ≠ gb553)) k_ ∧ some k_ ≠ (u3 : Value).ownBlock)) (HO_554007.out) (fun k_ hk => ⟨⟨hk.1, hk.2.2.2.2⟩, hk.2.1⟩))).2.1 (Kd.N_F (Kd.N_mono (ok' := (fun k_ => ((fun k_ => (w.heap.size ≤ k_) ∧ k_ ≠ gb553)) k_ ∧ some k_ ≠ (u3 : Value).ownBlock)) (HO_554007.out) (fun k_ hk => ⟨⟨hk.1, hk.2.2.2.2⟩, hk.2.1⟩))))); (case aB => exact ab10_); (case aF => exact (fun k_ hk => ⟨(Nat.le_trans (below_size ab10_) hk), frb_ BK553.out k_ hk⟩)); (case aO => exact (by (with_reducible repeat (first | apply Kd.N_alloc | apply Kd.N_drewN | apply Kd.N_drew)); exact Kd.N_mono HO_3.out (fun _ hk => ⟨hk.1, hk.2.2.2.2⟩))); (case aS => exact (below_size ab10_)); (case aL => have := LMc52.out; omega); intro v578 w54 ho hb hg hat; rw [← Ny577.out] at ho; replace BK553 := am (blk_grown (g := gb553) (o := .cells #[.int .i64 ((rd_T35 l0 x9_1).f0), .int .i64 ((rd_T35 l0 x9_1).f1), .int .i64 ((rd_T35 l0 x9_1).f2), .int .i64 t560, .int .i64 t561, .slice Ao22 t562.length co22, .slice Ao16 t554.length co16, .slice Ao18 t557.length co18] 35 (0, 0)) (aG_ BK553.out) hg (Kd.N_away HO_3.out (fun _ hk => hk.2.2.2.2))); replace HB := am (hb); have HO579 := am (ho); clear HO_3 HO_554005 HO_554006 HO_554007 ho hb hg hat))
           go_roundg kj33
           case measure => have := HK1.out; have := HJ7.out; have := HJ33.out; omega
           case rel => exact ⟨(y577), (wrap64 (x9_1 + 1)), sd_, H', ⟨by have := HK1.out; have := HJ7.out; have := HJ33.out; omega⟩, ⟨by (with_reducible repeat (first | apply Kd.N_alloc | apply Kd.N_drewN | apply Kd.N_drew)); exact Kd.N_mono HO579.out (fun _ hk => hk.1)⟩, ⟨ab10_⟩⟩
          rw [if_neg c52] at H
          exact absurd H (by simp)
     rw [if_neg c4] at H
     exact absurd H (by simp)
    rw [if_neg c3] at H
    exact absurd H (by simp)
   rw [if_neg c2] at H
   have c2b0 : decide (x9_1 < (l0.length : Int)) = false := decide_eq_false c2
   clear c2
   obtain rfl := Option.some.inj H
   go_wp2
   go_ret
   exact ⟨_, ab11_, by (with_reducible repeat (first | apply Kd.N_alloc | apply Kd.N_drewN | apply Kd.N_drew)); exact HO_3.out, ab2_⟩
theorem impl_StmtsFold.mono : ∀ a0 k, LeO (impl_StmtsFold.f k a0) (impl_StmtsFold.f (k + 1) a0) := by
 intro a0 k
 unfold impl_StmtsFold.f
 repeat' first
   | (with_reducible exact impl_StmtsValid.mono _ _)
   | (with_reducible exact impl_stmtsFold.mono _ _)
   | (with_reducible exact LeO.refl _)
   | (with_reducible exact LeO.none _)
   | (with_reducible refine LeO.ite ?_ ?_)
   | (with_reducible refine LeO.bind ?_ (fun _ => ?_))
theorem impl_StmtsFold.calls (k : Nat) (A0 : Option Addr) (c0 : Nat) (l0 : List (S35)) (r1 : List (S35)) (r2 : Bool) (w : World) (hr0 : Kd.C k35 w A0 l0.length l0) (hc0 : l0.length ≤ c0) (h : impl_StmtsFold.f k l0 = some (r1, r2)) :
  Calls Try.prog 13 #[.slice A0 l0.length c0] w fun e w' => ∃ v0_ : Value, e = .returned (.tuple #[v0_, .bool r2]) ∧ Kd.N k35 35 w' w.heap.size (fun k_ => (w.heap.size ≤ k_)) v0_ r1 ∧ Below w.heap.size w w' := by
 have HR0 := am hr0
 have HC0 := am hc0
 clear hr0 hc0
 have HB := am (Below.refl w.heap.size w)
 have H : ((impl_StmtsValid.f k l0).bind fun t580 => (if t580 = true then ((impl_stmtsFold.f k l0).bind fun t581 => (some (t581, true))) else (some (([] : List (S35)), false)))) = some (r1, r2) := h
 clear h
 obtain ⟨t580, A20, H⟩ := bsm H
 (try dsimp only at H)
 have A2 := am A20
 clear A20
 by_cases c3 : t580 = true
 ·subst c3
  rw [if_pos rfl] at H
  obtain ⟨t581, A40, H⟩ := bsm H
  (try dsimp only at H)
  have A4 := am A40
  clear A40
  simp only [Option.some.injEq, Prod.mk.injEq] at H
  obtain ⟨rfl, rfl⟩ := H
  go_enter Try.func13, Try.ntmps13
  go_wp2_with (first | ((with_reducible refine gate_callee (f := 17) rfl ?_); refine goesL_ (some 5) rfl rfl Try.func17 (by kernel_rfl) rfl #[.slice A0 l0.length c0] rfl ab1_ ?_; (with_reducible refine (impl_StmtsValid.calls k _ _ l0 true _ ?side1 HC0.out A2.out).mono ?_); (case side1 => repeat (first | exact HR0.out | (with_reducible refine Kd.C_alloc ?_ _) | (with_reducible refine Kd.C_drewN ?_ _) | (with_reducible refine Kd.C_drew ?_))); rintro e w5 ⟨rfl, hb⟩; refine ⟨_, rfl, ?_⟩; replace HB := am (below_step ab2_ hb); (try clear hb); (try clear hb2); (try clear hk); (try clear hi)) | ((with_reducible refine gate_callee (f := 46) rfl ?_); refine goesL_ (some 8) rfl rfl Try.func46 (by kernel_rfl) rfl #[.slice A0 l0.length c0] rfl ab1_ ?_; (with_reducible refine (impl_stmtsFold.calls k _ _ l0 t581 _ (aC_ (Kd.C_below HR0.out HB.out)) HC0.out A4.out).mono ?_); rintro e w6 ⟨v582, rfl, ho0, hb⟩; refine ⟨_, rfl, ?_⟩; have HO583 := am (Kd.N_lower (Kd.N_mono (ok' := fun k_ => (w.heap.size ≤ k_)) ho0 (fun k_ hk_ => (Nat.le_trans (below_size ab2_) hk_))) (below_size ab2_)); replace HB := am (below_step ab2_ hb); (try clear hb); (try clear hb2); (try clear hk); (try clear hi); (try clear ho0)))
  go_ret2
  exact ⟨_, ab11_, by (with_reducible repeat (first | apply Kd.N_alloc | apply Kd.N_drewN | apply Kd.N_drew)); exact HO583.out, ab2_⟩
 replace c3 := Bool.eq_false_iff.mpr c3
 subst c3
 rw [if_neg (show ¬ (false = true) by decide)] at H
 simp only [Option.some.injEq, Prod.mk.injEq] at H
 obtain ⟨rfl, rfl⟩ := H
 go_enter Try.func13, Try.ntmps13
 go_wp2_with (first | ((with_reducible refine gate_callee (f := 17) rfl ?_); refine goesL_ (some 5) rfl rfl Try.func17 (by kernel_rfl) rfl #[.slice A0 l0.length c0] rfl ab1_ ?_; (with_reducible refine (impl_StmtsValid.calls k _ _ l0 false _ ?side1 HC0.out A2.out).mono ?_); (case side1 => repeat (first | exact HR0.out | (with_reducible refine Kd.C_alloc ?_ _) | (with_reducible refine Kd.C_drewN ?_ _) | (with_reducible refine Kd.C_drew ?_))); rintro e w7 ⟨rfl, hb⟩; refine ⟨_, rfl, ?_⟩; replace HB := am (below_step ab2_ hb); (try clear hb); (try clear hb2); (try clear hk); (try clear hi)))
 go_ret2
 exact ⟨_, ab11_, by first | exact Kd.R_nil _ _ _ _ _ | exact Kd.N_nil _ _ _ _ _ | exact Kd.V_nil _ _ _ _ _ | exact Kd.Q_nil _ _ _ _ _ | exact Kd.S_nil _ _ _ _ _, ab2_⟩
theorem spec_l6In.calls (a0 : Int) (a1 : Int) (a2 : Int) (r : Bool) (w : World) (h : spec_l6In.f a0 a1 a2 = some r) :
  Calls Try.prog 88 #[.int .i64 a0, .int .i64 a1, .int .i64 a2] w fun e w' => e = .returned (.bool r) ∧ Drawn0 w w' := by
 have H : (if a0 ≥ a1 then (some (decide (a0 ≤ a2))) else (some false)) = some r := h
 clear h
 by_cases c4 : a0 ≥ a1
 ·rw [if_pos c4] at H
  have c4b0 : decide (a1 ≤ a0) = true := decide_eq_true c4
  clear c4
  obtain rfl := Option.some.inj H
  go_enter Try.func88, Try.ntmps88
  go_wp2
  go_ret
  exact ⟨by first | rfl | (simp; done) | (simp [*]; done), ab18_⟩
 rw [if_neg c4] at H
 have c4b0 : decide (a1 ≤ a0) = false := decide_eq_false c4
 clear c4
 obtain rfl := Option.some.inj H
 go_enter Try.func88, Try.ntmps88
 go_wp2
 go_ret
 exact ⟨by first | rfl | (simp; done) | (simp [*]; done), ab18_⟩
theorem spec_OpValid.calls (a0 : Int) (r : Bool) (w : World) (h : spec_OpValid.f a0 = some r) :
  Calls Try.prog 117 #[.int .i64 a0] w fun e w' => e = .returned (.bool r) ∧ Drawn0 w w' := by
 have H : ((spec_l6In.f a0 1 12).bind fun t588 => (some t588)) = some r := h
 clear h
 obtain ⟨t588, A20, H⟩ := bsm H
 (try dsimp only at H)
 have A2 := am A20
 clear A20
 obtain rfl := Option.some.inj H
 go_enter Try.func117, Try.ntmps117
 go_wp2_with (first | ((with_reducible refine gate_callee (f := 88) rfl ?_); refine goesL_ (some 4) rfl rfl Try.func88 (by kernel_rfl) rfl #[.int .i64 a0, .int .i64 1, .int .i64 12] rfl ab1_ ?_; (with_reducible refine (spec_l6In.calls a0 1 12 t588 _ A2.out).mono ?_); rintro e w' ⟨rfl, ⟨nd, rfl⟩⟩; refine ⟨_, rfl, ?_⟩))
 go_ret
 exact ⟨by first | rfl | (simp; done) | (simp [*]; done), ab18_⟩
theorem spec_l4Ok.mono_l : ∀ k, (∀ y0 y1 y2 y3, LeO (spec_l4Ok.f k y0 y1 y2 y3) (spec_l4Ok.f (k + 1) y0 y1 y2 y3))
 | 0 => fun _ _ _ _ r h => by simp [spec_l4Ok.f] at h
 | k + 1 => by
  have ih0 := spec_l4Ok.mono_l k
  ·intro y0 y1 y2 y3
   unfold spec_l4Ok.f
   repeat' first
   | (with_reducible exact ih0 _ _ _ _)
   | (with_reducible exact LeO.refl _)
   | (with_reducible exact LeO.none _)
   | (with_reducible refine LeO.ite ?_ ?_)
   | (with_reducible refine LeO.bind ?_ (fun _ => ?_))
theorem spec_l4Ok.mono : ∀ a0 a1 a2 a3 k, LeO (spec_l4Ok.f k a0 a1 a2 a3) (spec_l4Ok.f (k + 1) a0 a1 a2 a3) := by
 intro a0 a1 a2 a3 k
 have ih0 := spec_l4Ok.mono_l k
 exact ih0 a0 a1 a2 a3
theorem spec_l4Ok.calls (k : Nat) : ∀ (a0_0 : Int) (a0_1 : Int) (A0_2 : Option Addr) (c0_2 : Nat) (l0_2 : List (S32)) (a1 : Int) (r : Bool) (w : World) (hr0_2 : Kd.C k32 w A0_2 l0_2.length l0_2) (hc0_2 : l0_2.length ≤ c0_2) (h : spec_l4Ok.f k a0_0 a0_1 l0_2 a1 = some r),
  Calls Try.prog 116 #[.agg #[.int .i64 a0_0, .int .i64 a0_1, .slice A0_2 l0_2.length c0_2], .int .i64 a1] w fun e w' => e = .returned (.bool r) ∧ Below w.heap.size w w' := by
 induction k using Nat.strongRecOn with
 | _ k ih =>
 intro a0_0 a0_1 A0_2 c0_2 l0_2 a1 r w hr0_2 hc0_2 h
 cases k with
 | zero => exact absurd h (by simp [spec_l4Ok.f])
 | succ k =>
 simp only [spec_l4Ok.f] at h
 have hu32 := Try.underlying32
 have HR0_2 := am hr0_2
 have HC0_2 := am hc0_2
 clear hr0_2 hc0_2
 have HB := am (Below.refl w.heap.size w)
 have H : (if a1 < 1 then (some false) else (if a0_0 = 0 then ((spec_l6In.f a0_1 0 99999).bind fun t590 => (if t590 = true then (some ((l0_2.length : Int) == 0)) else (some false))) else (if a0_0 = 13 then ((spec_l6In.f a0_1 0 3).bind fun t591 => (if t591 = true then (some ((l0_2.length : Int) == 0)) else (some false))) else ((spec_OpValid.f a0_0).bind fun t592 => (if t592 = true then (if a0_1 = 0 then (if (l0_2.length : Int) = 2 then (if 0 < (l0_2.length : Int) then ((spec_l4Ok.f k ((rd_T32 l0_2 0).f0) ((rd_T32 l0_2 0).f1) ((rd_T32 l0_2 0).f2) (wrap64 (a1 - 1))).bind fun t594 => (if t594 = true then (if 1 < (l0_2.length : Int) then ((spec_l4Ok.f k ((rd_T32 l0_2 1).f0) ((rd_T32 l0_2 1).f1) ((rd_T32 l0_2 1).f2) (wrap64 (a1 - 1))).bind fun t596 => (some t596)) else (none)) else (some false))) else (none)) else (some false)) else (some false)) else (some false)))))) = some r := h
 clear h
 have HH_ := am H
 clear H
 go_enter Try.func116, Try.ntmps116
 go_upto_region 1 with (first | ((with_reducible refine gate_dst (N := 2) rfl ?_); (try (refine gate_guard (by rfl) ?_; dsimp only)); refine box_event rfl (N := 2) rfl (cs := #[.int .i64 a0_0, .int .i64 a0_1, .slice A0_2 l0_2.length c0_2]) (t := 32) rn_ ?_; intro gb589 hg w4 hbox hb; have BK589 := am (hbox); have GW589 := am ((by rw [hg]; exact (below_size ab2_) : w.heap.size ≤ gb589)); have GE589 := am ((by rw [hg]; exact (below_size ab2_) : w.heap.size ≤ gb589)); replace HB := am (below_step ab2_ hb); clear hb hbox hg))
 have H := HH_.out
 clear HH_
 by_cases c3 : a1 < 1
 ·rw [if_pos c3] at H
  have c3b0 : decide (a1 < 1) = true := decide_eq_true c3
  clear c3
  obtain rfl := Option.some.inj H
  go_wp2
  go_ret
  exact ⟨rr_, ab28_⟩
 rw [if_neg c3] at H
 have c3b0 : decide (a1 < 1) = false := decide_eq_false c3
 clear c3
 by_cases c5 : a0_0 = 0
 ·rw [if_pos c5] at H
  have c5b0 : (a0_0 == 0) = true := beq_iff_eq.mpr c5
  have c5b1 : (a0_0 != 0) = false := bne_eq_false_iff_eq.mpr c5
  clear c5
  obtain ⟨t590, A60, H⟩ := bsm H
  (try dsimp only at H)
  have A6 := am A60
  clear A60
  by_cases c7 : t590 = true
  ·subst c7
   rw [if_pos rfl] at H
   obtain rfl := Option.some.inj H
   obtain ⟨hcz9_0, hcz9_1, hcz9_2, hfz9_0, hfz9_1, hfz9_2⟩ := bcf3_ BK589.out
   go_wp2_with (first | ((with_reducible refine gate_callee (f := 88) rfl ?_); refine goesL_ (some 12) rfl rfl Try.func88 (by kernel_rfl) rfl #[.int .i64 a0_1, .int .i64 0, .int .i64 99999] rfl ab1_ ?_; (with_reducible refine (spec_l6In.calls a0_1 0 99999 true _ A6.out).mono ?_); rintro e w' ⟨rfl, ⟨nd, rfl⟩⟩; refine ⟨_, rfl, ?_⟩))
   go_ret
   exact ⟨rr_, ab28_⟩
  replace c7 := Bool.eq_false_iff.mpr c7
  subst c7
  rw [if_neg (show ¬ (false = true) by decide)] at H
  obtain rfl := Option.some.inj H
  obtain ⟨hcz11_0, hcz11_1, hcz11_2, hfz11_0, hfz11_1, hfz11_2⟩ := bcf3_ BK589.out
  go_wp2_with (first | ((with_reducible refine gate_callee (f := 88) rfl ?_); refine goesL_ (some 12) rfl rfl Try.func88 (by kernel_rfl) rfl #[.int .i64 a0_1, .int .i64 0, .int .i64 99999] rfl ab1_ ?_; (with_reducible refine (spec_l6In.calls a0_1 0 99999 false _ A6.out).mono ?_); rintro e w' ⟨rfl, ⟨nd, rfl⟩⟩; refine ⟨_, rfl, ?_⟩))
  go_ret
  exact ⟨rr_, ab28_⟩
 rw [if_neg c5] at H
 have c5b0 : (a0_0 == 0) = false := beq_eq_false_iff_ne.mpr c5
 have c5b1 : (a0_0 != 0) = true := bne_iff_ne.mpr c5
 by_cases c12 : a0_0 = 13
 ·rw [if_pos c12] at H
  have c12b0 : (a0_0 == 13) = true := beq_iff_eq.mpr c12
  have c12b1 : (a0_0 != 13) = false := bne_eq_false_iff_eq.mpr c12
  clear c12
  obtain ⟨t591, A130, H⟩ := bsm H
  (try dsimp only at H)
  have A13 := am A130
  clear A130
  by_cases c14 : t591 = true
  ·subst c14
   rw [if_pos rfl] at H
   obtain rfl := Option.some.inj H
   obtain ⟨hcz16_0, hcz16_1, hcz16_2, hfz16_0, hfz16_1, hfz16_2⟩ := bcf3_ BK589.out
   go_wp2_with (first | ((with_reducible refine gate_callee (f := 88) rfl ?_); refine goesL_ (some 24) rfl rfl Try.func88 (by kernel_rfl) rfl #[.int .i64 a0_1, .int .i64 0, .int .i64 3] rfl ab1_ ?_; (with_reducible refine (spec_l6In.calls a0_1 0 3 true _ A13.out).mono ?_); rintro e w' ⟨rfl, ⟨nd, rfl⟩⟩; refine ⟨_, rfl, ?_⟩))
   go_ret
   exact ⟨rr_, ab28_⟩
  replace c14 := Bool.eq_false_iff.mpr c14
  subst c14
  rw [if_neg (show ¬ (false = true) by decide)] at H
  obtain rfl := Option.some.inj H
  obtain ⟨hcz18_0, hcz18_1, hcz18_2, hfz18_0, hfz18_1, hfz18_2⟩ := bcf3_ BK589.out
  go_wp2_with (first | ((with_reducible refine gate_callee (f := 88) rfl ?_); refine goesL_ (some 24) rfl rfl Try.func88 (by kernel_rfl) rfl #[.int .i64 a0_1, .int .i64 0, .int .i64 3] rfl ab1_ ?_; (with_reducible refine (spec_l6In.calls a0_1 0 3 false _ A13.out).mono ?_); rintro e w' ⟨rfl, ⟨nd, rfl⟩⟩; refine ⟨_, rfl, ?_⟩))
  go_ret
  exact ⟨rr_, ab28_⟩
 rw [if_neg c12] at H
 have c12b0 : (a0_0 == 13) = false := beq_eq_false_iff_ne.mpr c12
 have c12b1 : (a0_0 != 13) = true := bne_iff_ne.mpr c12
 obtain ⟨t592, A190, H⟩ := bsm H
 (try dsimp only at H)
 have A19 := am A190
 clear A190
 by_cases c20 : t592 = true
 ·subst c20
  rw [if_pos rfl] at H
  by_cases c21 : a0_1 = 0
  ·rw [if_pos c21] at H
   have c21b0 : (a0_1 == 0) = true := beq_iff_eq.mpr c21
   have c21b1 : (a0_1 != 0) = false := bne_eq_false_iff_eq.mpr c21
   clear c21
   by_cases c22 : (l0_2.length : Int) = 2
   ·rw [if_pos c22] at H
    have c22b0 : ((l0_2.length : Int) == 2) = true := beq_iff_eq.mpr c22
    have c22b1 : ((l0_2.length : Int) != 2) = false := bne_eq_false_iff_eq.mpr c22
    clear c22
    by_cases c23 : 0 < (l0_2.length : Int)
    ·rw [if_pos c23] at H
     have c23b0 : decide (0 < (l0_2.length : Int)) = true := decide_eq_true c23
     have c23b1 : decide (0 < l0_2.length) = true := decide_eq_true (by omega)
     clear c23
     obtain ⟨t594, A240, H⟩ := bsm H
     (try dsimp only at H)
     have A24 := am A240
     clear A240
     by_cases c25 : t594 = true
     ·subst c25
      rw [if_pos rfl] at H
      by_cases c26 : 1 < (l0_2.length : Int)
      ·rw [if_pos c26] at H
       have c26b0 : decide (1 < (l0_2.length : Int)) = true := decide_eq_true c26
       have c26b1 : decide (1 < l0_2.length) = true := decide_eq_true (by omega)
       clear c26
       obtain ⟨t596, A270, H⟩ := bsm H
       (try dsimp only at H)
       have A27 := am A270
       clear A270
       obtain rfl := Option.some.inj H
       obtain ⟨hcz29_0, hcz29_1, hcz29_2, hfz29_0, hfz29_1, hfz29_2⟩ := bcf3_ BK589.out
       go_wp2_with (first | ((with_reducible refine gate_callee (f := 117) rfl ?_); refine goesL_ (some 33) rfl rfl Try.func117 (by kernel_rfl) rfl #[.int .i64 a0_0] rfl ab1_ ?_; (with_reducible refine (spec_OpValid.calls a0_0 true _ A19.out).mono ?_); rintro e w' ⟨rfl, ⟨nd, rfl⟩⟩; refine ⟨_, rfl, ?_⟩; have p593 : 0 ≤ (0 : Int) := (by omega); have q593 : 0 < (l0_2.length : Int) := of_decide_eq_true asm_; obtain ⟨ad593, A593_2, c593_2, e593, hx593_0, hx593_1, hx593_2, hl593_2, hi593_2⟩ := at_T32 HR0_2.out 0 p593 q593; cases e593; have qi593 : (0 < l0_2.length) = True := eq_true (by omega); (try rw [show ((0 : Int)).toNat = 0 from rfl] at hx593_0); (try rw [show 0 * 3 = 0 from rfl] at hx593_0); (try rw [Addr.add_zero'] at hx593_0); (try rw [show ((0 : Int)).toNat = 0 from rfl] at hx593_1); (try rw [show 0 * 3 = 0 from rfl] at hx593_1); (try rw [Addr.add_zero'] at hx593_1); (try rw [show ((0 : Int)).toNat = 0 from rfl] at hx593_2); (try rw [show 0 * 3 = 0 from rfl] at hx593_2); (try rw [Addr.add_zero'] at hx593_2); replace hx593_0 := (HB.out.cell (World.block_lt_of_cell? w _ hx593_0)).trans hx593_0; replace hx593_1 := (HB.out.cell (World.block_lt_of_cell? w _ hx593_1)).trans hx593_1; replace hx593_2 := (HB.out.cell (World.block_lt_of_cell? w _ hx593_2)).trans hx593_2; have HR593_2 := am hi593_2; have HC593_2 := am hl593_2; clear hi593_2 hl593_2; replace p593 := eq_true p593; replace q593 := eq_true q593) | (go_at_call 116; (with_reducible refine (ih k (by omega) ((rd_T32 l0_2 0).f0) ((rd_T32 l0_2 0).f1) _ _ ((rd_T32 l0_2 0).f2) (wrap64 (a1 - 1)) true _ (aC_ (Kd.C_below HR593_2.out ab28_)) HC593_2.out A24.out).mono ?_); rintro e w30 ⟨rfl, hb⟩; replace BK589 := am (bbl_ BK589.out hb); replace HB := am (below_step ab28_ hb); (try clear hb); (try clear hb2); (try clear hk); (try clear hi); obtain ⟨hcz31_0, hcz31_1, hcz31_2, hfz31_0, hfz31_1, hfz31_2⟩ := bcf3_ BK589.out; have p595 : 0 ≤ (1 : Int) := (by omega); have q595 : 1 < (l0_2.length : Int) := of_decide_eq_true asm_; obtain ⟨ad595, A595_2, c595_2, e595, hx595_0, hx595_1, hx595_2, hl595_2, hi595_2⟩ := at_T32 HR0_2.out 1 p595 q595; obtain rfl : ad593 = ad595 := (by injection e595); (try simp only [show (1 : Int).toNat = 1 from rfl, Nat.reduceMul, Nat.reduceEqDiff, Go.Addr.add, ↓reduceIte] at hx595_0); (try simp only [show (1 : Int).toNat = 1 from rfl, Nat.reduceMul, Nat.reduceEqDiff, Go.Addr.add, ↓reduceIte] at hx595_1); (try simp only [show (1 : Int).toNat = 1 from rfl, Nat.reduceMul, Nat.reduceEqDiff, Go.Addr.add, ↓reduceIte] at hx595_2); have qi595 : (1 < l0_2.length) = True := eq_true (by omega); (try rw [show ((1 : Int)).toNat = 1 from rfl] at hx595_0); (try rw [show 1 * 3 = 3 from rfl] at hx595_0); (try rw [show ((1 : Int)).toNat = 1 from rfl] at hx595_1); (try rw [show 1 * 3 = 3 from rfl] at hx595_1); (try rw [show ((1 : Int)).toNat = 1 from rfl] at hx595_2); (try rw [show 1 * 3 = 3 from rfl] at hx595_2); replace hx595_0 := (HB.out.cell (World.block_lt_of_cell? w _ hx595_0)).trans hx595_0; replace hx595_1 := (HB.out.cell (World.block_lt_of_cell? w _ hx595_1)).trans hx595_1; replace hx595_2 := (HB.out.cell (World.block_lt_of_cell? w _ hx595_2)).trans hx595_2; have HR595_2 := am hi595_2; have HC595_2 := am hl595_2; clear hi595_2 hl595_2; replace p595 := eq_true p595; replace q595 := eq_true q595) | (go_at_call 116; (with_reducible refine (ih k (by omega) ((rd_T32 l0_2 1).f0) ((rd_T32 l0_2 1).f1) _ _ ((rd_T32 l0_2 1).f2) (wrap64 (a1 - 1)) t596 _ (aC_ (Kd.C_below HR595_2.out HB.out)) HC595_2.out A27.out).mono ?_); rintro e w32 ⟨rfl, hb⟩; replace BK589 := am (bbl_ BK589.out hb); replace HB := am (below_step ab28_ hb); (try clear hb); (try clear hb2); (try clear hk); (try clear hi)))
       go_ret
       exact ⟨rr_, ab28_⟩
      rw [if_neg c26] at H
      exact absurd H (by simp)
     replace c25 := Bool.eq_false_iff.mpr c25
     subst c25
     rw [if_neg (show ¬ (false = true) by decide)] at H
     obtain rfl := Option.some.inj H
     obtain ⟨hcz34_0, hcz34_1, hcz34_2, hfz34_0, hfz34_1, hfz34_2⟩ := bcf3_ BK589.out
     go_wp2_with (first | ((with_reducible refine gate_callee (f := 117) rfl ?_); refine goesL_ (some 33) rfl rfl Try.func117 (by kernel_rfl) rfl #[.int .i64 a0_0] rfl ab1_ ?_; (with_reducible refine (spec_OpValid.calls a0_0 true _ A19.out).mono ?_); rintro e w' ⟨rfl, ⟨nd, rfl⟩⟩; refine ⟨_, rfl, ?_⟩; have p593 : 0 ≤ (0 : Int) := (by omega); have q593 : 0 < (l0_2.length : Int) := of_decide_eq_true asm_; obtain ⟨ad593, A593_2, c593_2, e593, hx593_0, hx593_1, hx593_2, hl593_2, hi593_2⟩ := at_T32 HR0_2.out 0 p593 q593; cases e593; have qi593 : (0 < l0_2.length) = True := eq_true (by omega); (try rw [show ((0 : Int)).toNat = 0 from rfl] at hx593_0); (try rw [show 0 * 3 = 0 from rfl] at hx593_0); (try rw [Addr.add_zero'] at hx593_0); (try rw [show ((0 : Int)).toNat = 0 from rfl] at hx593_1); (try rw [show 0 * 3 = 0 from rfl] at hx593_1); (try rw [Addr.add_zero'] at hx593_1); (try rw [show ((0 : Int)).toNat = 0 from rfl] at hx593_2); (try rw [show 0 * 3 = 0 from rfl] at hx593_2); (try rw [Addr.add_zero'] at hx593_2); replace hx593_0 := (HB.out.cell (World.block_lt_of_cell? w _ hx593_0)).trans hx593_0; replace hx593_1 := (HB.out.cell (World.block_lt_of_cell? w _ hx593_1)).trans hx593_1; replace hx593_2 := (HB.out.cell (World.block_lt_of_cell? w _ hx593_2)).trans hx593_2; have HR593_2 := am hi593_2; have HC593_2 := am hl593_2; clear hi593_2 hl593_2; replace p593 := eq_true p593; replace q593 := eq_true q593) | (go_at_call 116; (with_reducible refine (ih k (by omega) ((rd_T32 l0_2 0).f0) ((rd_T32 l0_2 0).f1) _ _ ((rd_T32 l0_2 0).f2) (wrap64 (a1 - 1)) false _ (aC_ (Kd.C_below HR593_2.out ab28_)) HC593_2.out A24.out).mono ?_); rintro e w35 ⟨rfl, hb⟩; replace BK589 := am (bbl_ BK589.out hb); replace HB := am (below_step ab28_ hb); (try clear hb); (try clear hb2); (try clear hk); (try clear hi)))
     go_ret
     exact ⟨rr_, ab28_⟩
    rw [if_neg c23] at H
    exact absurd H (by simp)
   rw [if_neg c22] at H
   have c22b0 : ((l0_2.length : Int) == 2) = false := beq_eq_false_iff_ne.mpr c22
   have c22b1 : ((l0_2.length : Int) != 2) = true := bne_iff_ne.mpr c22
   obtain rfl := Option.some.inj H
   obtain ⟨hcz37_0, hcz37_1, hcz37_2, hfz37_0, hfz37_1, hfz37_2⟩ := bcf3_ BK589.out
   go_wp2_with (first | ((with_reducible refine gate_callee (f := 117) rfl ?_); refine goesL_ (some 33) rfl rfl Try.func117 (by kernel_rfl) rfl #[.int .i64 a0_0] rfl ab1_ ?_; (with_reducible refine (spec_OpValid.calls a0_0 true _ A19.out).mono ?_); rintro e w' ⟨rfl, ⟨nd, rfl⟩⟩; refine ⟨_, rfl, ?_⟩))
   go_ret
   exact ⟨rr_, ab28_⟩
  rw [if_neg c21] at H
  have c21b0 : (a0_1 == 0) = false := beq_eq_false_iff_ne.mpr c21
  have c21b1 : (a0_1 != 0) = true := bne_iff_ne.mpr c21
  obtain rfl := Option.some.inj H
  obtain ⟨hcz39_0, hcz39_1, hcz39_2, hfz39_0, hfz39_1, hfz39_2⟩ := bcf3_ BK589.out
  go_wp2_with (first | ((with_reducible refine gate_callee (f := 117) rfl ?_); refine goesL_ (some 33) rfl rfl Try.func117 (by kernel_rfl) rfl #[.int .i64 a0_0] rfl ab1_ ?_; (with_reducible refine (spec_OpValid.calls a0_0 true _ A19.out).mono ?_); rintro e w' ⟨rfl, ⟨nd, rfl⟩⟩; refine ⟨_, rfl, ?_⟩))
  go_ret
  exact ⟨rr_, ab28_⟩
 replace c20 := Bool.eq_false_iff.mpr c20
 subst c20
 rw [if_neg (show ¬ (false = true) by decide)] at H
 obtain rfl := Option.some.inj H
 obtain ⟨hcz41_0, hcz41_1, hcz41_2, hfz41_0, hfz41_1, hfz41_2⟩ := bcf3_ BK589.out
 go_wp2_with (first | ((with_reducible refine gate_callee (f := 117) rfl ?_); refine goesL_ (some 33) rfl rfl Try.func117 (by kernel_rfl) rfl #[.int .i64 a0_0] rfl ab1_ ?_; (with_reducible refine (spec_OpValid.calls a0_0 false _ A19.out).mono ?_); rintro e w' ⟨rfl, ⟨nd, rfl⟩⟩; refine ⟨_, rfl, ?_⟩))
 go_ret
 exact ⟨rr_, ab28_⟩
theorem spec_ExprValid.mono : ∀ a0 a1 a2 k, LeO (spec_ExprValid.f k a0 a1 a2) (spec_ExprValid.f (k + 1) a0 a1 a2) := by
 intro a0 a1 a2 k
 unfold spec_ExprValid.f
 repeat' first
   | (with_reducible exact spec_l4Ok.mono _ _ _ _ _)
   | (with_reducible exact LeO.refl _)
   | (with_reducible exact LeO.none _)
   | (with_reducible refine LeO.ite ?_ ?_)
   | (with_reducible refine LeO.bind ?_ (fun _ => ?_))
theorem spec_ExprValid.calls (k : Nat) (a0_0 : Int) (a0_1 : Int) (A0_2 : Option Addr) (c0_2 : Nat) (l0_2 : List (S32)) (r : Bool) (w : World) (hr0_2 : Kd.C k32 w A0_2 l0_2.length l0_2) (hc0_2 : l0_2.length ≤ c0_2) (h : spec_ExprValid.f k a0_0 a0_1 l0_2 = some r) :
  Calls Try.prog 111 #[.agg #[.int .i64 a0_0, .int .i64 a0_1, .slice A0_2 l0_2.length c0_2]] w fun e w' => e = .returned (.bool r) ∧ Below w.heap.size w w' := by
 have hu32 := Try.underlying32
 have HR0_2 := am hr0_2
 have HC0_2 := am hc0_2
 clear hr0_2 hc0_2
 have HB := am (Below.refl w.heap.size w)
 have H : ((spec_l4Ok.f k a0_0 a0_1 l0_2 5).bind fun t598 => (some t598)) = some r := h
 clear h
 obtain ⟨t598, A20, H⟩ := bsm H
 (try dsimp only at H)
 have A2 := am A20
 clear A20
 obtain rfl := Option.some.inj H
 go_enter Try.func111, Try.ntmps111
 go_wp2_with (first | ((with_reducible refine gate_dst (N := 1) rfl ?_); refine box_event rfl (N := 1) rfl (cs := #[.int .i64 a0_0, .int .i64 a0_1, .slice A0_2 l0_2.length c0_2]) (t := 32) rn_ ?_; intro gb597 hg w3 hbox hb; have BK597 := am (hbox); have GW597 := am ((by rw [hg]; exact (below_size ab2_) : w.heap.size ≤ gb597)); have GE597 := am ((by rw [hg]; exact (below_size ab2_) : w.heap.size ≤ gb597)); replace HB := am (below_step ab2_ hb); clear hb hbox hg; obtain ⟨hcz4_0, hcz4_1, hcz4_2, hfz4_0, hfz4_1, hfz4_2⟩ := bcf3_ BK597.out) | ((with_reducible refine gate_callee (f := 116) rfl ?_); refine goesL_ (some 4) rfl rfl Try.func116 (by kernel_rfl) rfl #[.agg #[.int .i64 a0_0, .int .i64 a0_1, .slice A0_2 l0_2.length c0_2], .int .i64 5] rfl ab1_ ?_; (with_reducible refine (spec_l4Ok.calls k a0_0 a0_1 _ _ l0_2 5 t598 _ (aC_ (Kd.C_below HR0_2.out HB.out)) HC0_2.out A2.out).mono ?_); rintro e w5 ⟨rfl, hb⟩; refine ⟨_, rfl, ?_⟩; replace BK597 := am (bbl_ BK597.out hb); replace HB := am (below_step ab85_ hb); (try clear hb); (try clear hb2); (try clear hk); (try clear hi)))
 go_ret
 exact ⟨rr_, ab85_⟩
theorem spec_l11Var.calls (a0_0 : Int) (a0_1 : Int) (a0_2 : Int) (a0_3 : Int) (a0_4 : Int) (A0_5 : Option Addr) (c0_5 : Nat) (l0_5 : List (S32)) (A0_6 : Option Addr) (c0_6 : Nat) (l0_6 : List (S35)) (A0_7 : Option Addr) (c0_7 : Nat) (l0_7 : List (S35)) (a1 : Bool) (r : Bool) (w : World) (hr0_5 : Kd.C k32 w A0_5 l0_5.length l0_5) (hc0_5 : l0_5.length ≤ c0_5) (hr0_6 : Kd.C k35 w A0_6 l0_6.length l0_6) (hc0_6 : l0_6.length ≤ c0_6) (hr0_7 : Kd.C k35 w A0_7 l0_7.length l0_7) (hc0_7 : l0_7.length ≤ c0_7) (h : spec_l11Var.f a0_0 a0_1 a0_2 a0_3 a0_4 l0_5 l0_6 l0_7 a1 = some r) :
  Calls Try.prog 109 #[.agg #[.int .i64 a0_0, .int .i64 a0_1, .int .i64 a0_2, .int .i64 a0_3, .int .i64 a0_4, .slice A0_5 l0_5.length c0_5, .slice A0_6 l0_6.length c0_6, .slice A0_7 l0_7.length c0_7], .bool a1] w fun e w' => e = .returned (.bool r) ∧ Below w.heap.size w w' := by
 have hu35 := Try.underlying35
 have HR0_5 := am hr0_5
 have HC0_5 := am hc0_5
 clear hr0_5 hc0_5
 have HR0_6 := am hr0_6
 have HC0_6 := am hc0_6
 clear hr0_6 hc0_6
 have HR0_7 := am hr0_7
 have HC0_7 := am hc0_7
 clear hr0_7 hc0_7
 have HB := am (Below.refl w.heap.size w)
 have H : (if a1 = true then ((spec_l6In.f a0_1 0 3).bind fun t585 => (some t585)) else (some (a0_1 == 0))) = some r := h
 clear h
 have HH_ := am H
 clear H
 go_enter Try.func109, Try.ntmps109
 go_upto_region 1 with (first | ((with_reducible refine gate_dst (N := 2) rfl ?_); refine box_event rfl (N := 2) rfl (cs := #[.int .i64 a0_0, .int .i64 a0_1, .int .i64 a0_2, .int .i64 a0_3, .int .i64 a0_4, .slice A0_5 l0_5.length c0_5, .slice A0_6 l0_6.length c0_6, .slice A0_7 l0_7.length c0_7]) (t := 35) rn_ ?_; intro gb584 hg w5 hbox hb; have BK584 := am (hbox); have GW584 := am ((by rw [hg]; exact (below_size ab2_) : w.heap.size ≤ gb584)); have GE584 := am ((by rw [hg]; exact (below_size ab2_) : w.heap.size ≤ gb584)); replace HB := am (below_step ab2_ hb); clear hb hbox hg; obtain ⟨hcz6_0, hcz6_1, hcz6_2, hcz6_3, hcz6_4, hcz6_5, hcz6_6, hcz6_7, hfz6_0, hfz6_1, hfz6_2, hfz6_3, hfz6_4, hfz6_5, hfz6_6, hfz6_7⟩ := bcf8_ BK584.out))
 have H := HH_.out
 clear HH_
 by_cases c3 : a1 = true
 ·subst c3
  rw [if_pos rfl] at H
  obtain ⟨t585, A40, H⟩ := bsm H
  (try dsimp only at H)
  have A4 := am A40
  clear A40
  obtain rfl := Option.some.inj H
  go_wp2_with (first | ((with_reducible refine gate_callee (f := 88) rfl ?_); refine goesL_ (some 8) rfl rfl Try.func88 (by kernel_rfl) rfl #[.int .i64 a0_1, .int .i64 0, .int .i64 3] rfl ab1_ ?_; (with_reducible refine (spec_l6In.calls a0_1 0 3 t585 _ A4.out).mono ?_); rintro e w' ⟨rfl, ⟨nd, rfl⟩⟩; refine ⟨_, rfl, ?_⟩))
  go_ret
  exact ⟨rr_, ab83_⟩
 replace c3 := Bool.eq_false_iff.mpr c3
 subst c3
 rw [if_neg (show ¬ (false = true) by decide)] at H
 obtain rfl := Option.some.inj H
 go_wp2
 go_ret
 exact ⟨rr_, ab83_⟩
theorem spec_l11Box.calls (a0_0 : Int) (a0_1 : Int) (a0_2 : Int) (a0_3 : Int) (a0_4 : Int) (A0_5 : Option Addr) (c0_5 : Nat) (l0_5 : List (S32)) (A0_6 : Option Addr) (c0_6 : Nat) (l0_6 : List (S35)) (A0_7 : Option Addr) (c0_7 : Nat) (l0_7 : List (S35)) (a1 : Bool) (r : Bool) (w : World) (hr0_5 : Kd.C k32 w A0_5 l0_5.length l0_5) (hc0_5 : l0_5.length ≤ c0_5) (hr0_6 : Kd.C k35 w A0_6 l0_6.length l0_6) (hc0_6 : l0_6.length ≤ c0_6) (hr0_7 : Kd.C k35 w A0_7 l0_7.length l0_7) (hc0_7 : l0_7.length ≤ c0_7) (h : spec_l11Box.f a0_0 a0_1 a0_2 a0_3 a0_4 l0_5 l0_6 l0_7 a1 = some r) :
  Calls Try.prog 110 #[.agg #[.int .i64 a0_0, .int .i64 a0_1, .int .i64 a0_2, .int .i64 a0_3, .int .i64 a0_4, .slice A0_5 l0_5.length c0_5, .slice A0_6 l0_6.length c0_6, .slice A0_7 l0_7.length c0_7], .bool a1] w fun e w' => e = .returned (.bool r) ∧ Below w.heap.size w w' := by
 have hu35 := Try.underlying35
 have HR0_5 := am hr0_5
 have HC0_5 := am hc0_5
 clear hr0_5 hc0_5
 have HR0_6 := am hr0_6
 have HC0_6 := am hc0_6
 clear hr0_6 hc0_6
 have HR0_7 := am hr0_7
 have HC0_7 := am hc0_7
 clear hr0_7 hc0_7
 have HB := am (Below.refl w.heap.size w)
 have H : (if a1 = true then ((spec_l6In.f a0_2 0 2).bind fun t587 => (some t587)) else (some (a0_2 == 0))) = some r := h
 clear h
 have HH_ := am H
 clear H
 go_enter Try.func110, Try.ntmps110
 go_upto_region 1 with (first | ((with_reducible refine gate_dst (N := 2) rfl ?_); refine box_event rfl (N := 2) rfl (cs := #[.int .i64 a0_0, .int .i64 a0_1, .int .i64 a0_2, .int .i64 a0_3, .int .i64 a0_4, .slice A0_5 l0_5.length c0_5, .slice A0_6 l0_6.length c0_6, .slice A0_7 l0_7.length c0_7]) (t := 35) rn_ ?_; intro gb586 hg w5 hbox hb; have BK586 := am (hbox); have GW586 := am ((by rw [hg]; exact (below_size ab2_) : w.heap.size ≤ gb586)); have GE586 := am ((by rw [hg]; exact (below_size ab2_) : w.heap.size ≤ gb586)); replace HB := am (below_step ab2_ hb); clear hb hbox hg; obtain ⟨hcz6_0, hcz6_1, hcz6_2, hcz6_3, hcz6_4, hcz6_5, hcz6_6, hcz6_7, hfz6_0, hfz6_1, hfz6_2, hfz6_3, hfz6_4, hfz6_5, hfz6_6, hfz6_7⟩ := bcf8_ BK586.out))
 have H := HH_.out
 clear HH_
 by_cases c3 : a1 = true
 ·subst c3
  rw [if_pos rfl] at H
  obtain ⟨t587, A40, H⟩ := bsm H
  (try dsimp only at H)
  have A4 := am A40
  clear A40
  obtain rfl := Option.some.inj H
  go_wp2_with (first | ((with_reducible refine gate_callee (f := 88) rfl ?_); refine goesL_ (some 8) rfl rfl Try.func88 (by kernel_rfl) rfl #[.int .i64 a0_2, .int .i64 0, .int .i64 2] rfl ab1_ ?_; (with_reducible refine (spec_l6In.calls a0_2 0 2 t587 _ A4.out).mono ?_); rintro e w' ⟨rfl, ⟨nd, rfl⟩⟩; refine ⟨_, rfl, ?_⟩))
  go_ret
  exact ⟨rr_, ab84_⟩
 replace c3 := Bool.eq_false_iff.mpr c3
 subst c3
 rw [if_neg (show ¬ (false = true) by decide)] at H
 obtain rfl := Option.some.inj H
 go_wp2
 go_ret
 exact ⟨rr_, ab84_⟩
theorem spec_l11Plain.calls (a0_0 : Int) (a0_1 : Int) (A0_2 : Option Addr) (c0_2 : Nat) (l0_2 : List (S32)) (r : Bool) (w : World) (hr0_2 : Kd.C k32 w A0_2 l0_2.length l0_2) (hc0_2 : l0_2.length ≤ c0_2) (h : spec_l11Plain.f a0_0 a0_1 l0_2 = some r) :
  Calls Try.prog 115 #[.agg #[.int .i64 a0_0, .int .i64 a0_1, .slice A0_2 l0_2.length c0_2]] w fun e w' => e = .returned (.bool r) ∧ Below w.heap.size w w' := by
 have hu32 := Try.underlying32
 have HR0_2 := am hr0_2
 have HC0_2 := am hc0_2
 clear hr0_2 hc0_2
 have HB := am (Below.refl w.heap.size w)
 have H : (if a0_0 = 0 then (if a0_1 = 0 then (some ((l0_2.length : Int) == 0)) else (some false)) else (some false)) = some r := h
 clear h
 have HH_ := am H
 clear H
 go_enter Try.func115, Try.ntmps115
 go_upto_region 1 with (first | ((with_reducible refine gate_dst (N := 1) rfl ?_); (try (refine gate_guard (by rfl) ?_; dsimp only)); refine box_event rfl (N := 1) rfl (cs := #[.int .i64 a0_0, .int .i64 a0_1, .slice A0_2 l0_2.length c0_2]) (t := 32) rn_ ?_; intro gb599 hg w4 hbox hb; have BK599 := am (hbox); have GW599 := am ((by rw [hg]; exact (below_size ab2_) : w.heap.size ≤ gb599)); have GE599 := am ((by rw [hg]; exact (below_size ab2_) : w.heap.size ≤ gb599)); replace HB := am (below_step ab2_ hb); clear hb hbox hg; obtain ⟨hcz5_0, hcz5_1, hcz5_2, hfz5_0, hfz5_1, hfz5_2⟩ := bcf3_ BK599.out))
 have H := HH_.out
 clear HH_
 by_cases c2 : a0_0 = 0
 ·rw [if_pos c2] at H
  have c2b0 : (a0_0 == 0) = true := beq_iff_eq.mpr c2
  have c2b1 : (a0_0 != 0) = false := bne_eq_false_iff_eq.mpr c2
  clear c2
  by_cases c3 : a0_1 = 0
  ·rw [if_pos c3] at H
   have c3b0 : (a0_1 == 0) = true := beq_iff_eq.mpr c3
   have c3b1 : (a0_1 != 0) = false := bne_eq_false_iff_eq.mpr c3
   clear c3
   obtain rfl := Option.some.inj H
   go_wp2
   go_ret
   exact ⟨rr_, ab72_⟩
  rw [if_neg c3] at H
  have c3b0 : (a0_1 == 0) = false := beq_eq_false_iff_ne.mpr c3
  have c3b1 : (a0_1 != 0) = true := bne_iff_ne.mpr c3
  obtain rfl := Option.some.inj H
  go_wp2
  go_ret
  exact ⟨rr_, ab72_⟩
 rw [if_neg c2] at H
 have c2b0 : (a0_0 == 0) = false := beq_eq_false_iff_ne.mpr c2
 have c2b1 : (a0_0 != 0) = true := bne_iff_ne.mpr c2
 obtain rfl := Option.some.inj H
 go_wp2
 go_ret
 exact ⟨rr_, ab72_⟩
theorem spec_l11Simple.mono_l : ∀ k, (∀ y0 y1 y2 y3 y4 y5 y6 y7 y8, LeO (spec_l11Simple.j0 k y0 y1 y2 y3 y4 y5 y6 y7 y8) (spec_l11Simple.j0 (k + 1) y0 y1 y2 y3 y4 y5 y6 y7 y8))
 | 0 => fun _ _ _ _ _ _ _ _ _ r h => by simp [spec_l11Simple.j0] at h
 | k + 1 => by
  have ih0 := spec_l11Simple.mono_l k
  ·intro y0 y1 y2 y3 y4 y5 y6 y7 y8
   unfold spec_l11Simple.j0
   repeat' first
   | (with_reducible exact ih0 _ _ _ _ _ _ _ _ _)
   | (with_reducible exact spec_ExprValid.mono _ _ _ _)
   | (with_reducible exact LeO.refl _)
   | (with_reducible exact LeO.none _)
   | (with_reducible refine LeO.ite ?_ ?_)
   | (with_reducible refine LeO.bind ?_ (fun _ => ?_))
theorem spec_l11Simple.mono : ∀ a0 a1 a2 a3 a4 a5 a6 a7 k, LeO (spec_l11Simple.f k a0 a1 a2 a3 a4 a5 a6 a7) (spec_l11Simple.f (k + 1) a0 a1 a2 a3 a4 a5 a6 a7) := by
 intro a0 a1 a2 a3 a4 a5 a6 a7 k
 have ih0 := spec_l11Simple.mono_l k
 unfold spec_l11Simple.f
 repeat' first
   | (with_reducible exact ih0 _ _ _ _ _ _ _ _ _)
   | (with_reducible exact spec_ExprValid.mono _ _ _ _)
   | (with_reducible exact LeO.refl _)
   | (with_reducible exact LeO.none _)
   | (with_reducible refine LeO.ite ?_ ?_)
   | (with_reducible refine LeO.bind ?_ (fun _ => ?_))
theorem spec_l11Simple.calls (k : Nat) (a0_0 : Int) (a0_1 : Int) (a0_2 : Int) (a0_3 : Int) (a0_4 : Int) (A0_5 : Option Addr) (c0_5 : Nat) (l0_5 : List (S32)) (A0_6 : Option Addr) (c0_6 : Nat) (l0_6 : List (S35)) (A0_7 : Option Addr) (c0_7 : Nat) (l0_7 : List (S35)) (r : Bool) (w : World) (hr0_5 : Kd.C k32 w A0_5 l0_5.length l0_5) (hc0_5 : l0_5.length ≤ c0_5) (hr0_6 : Kd.C k35 w A0_6 l0_6.length l0_6) (hc0_6 : l0_6.length ≤ c0_6) (hr0_7 : Kd.C k35 w A0_7 l0_7.length l0_7) (hc0_7 : l0_7.length ≤ c0_7) (h : spec_l11Simple.f k a0_0 a0_1 a0_2 a0_3 a0_4 l0_5 l0_6 l0_7 = some r) :
  Calls Try.prog 108 #[.agg #[.int .i64 a0_0, .int .i64 a0_1, .int .i64 a0_2, .int .i64 a0_3, .int .i64 a0_4, .slice A0_5 l0_5.length c0_5, .slice A0_6 l0_6.length c0_6, .slice A0_7 l0_7.length c0_7]] w fun e w' => e = .returned (.bool r) ∧ Below w.heap.size w w' := by
 have hu35 := Try.underlying35
 have hu32 := Try.underlying32
 have HR0_5 := am hr0_5
 have HC0_5 := am hc0_5
 clear hr0_5 hc0_5
 have HR0_6 := am hr0_6
 have HC0_6 := am hc0_6
 clear hr0_6 hc0_6
 have HR0_7 := am hr0_7
 have HC0_7 := am hc0_7
 clear hr0_7 hc0_7
 have HB := am (Below.refl w.heap.size w)
 have H : (if (l0_6.length : Int) > 0 then (spec_l11Simple.j0 k true a0_0 a0_1 a0_2 a0_3 a0_4 l0_5 l0_6 l0_7) else (spec_l11Simple.j0 k (decide ((l0_7.length : Int) > 0)) a0_0 a0_1 a0_2 a0_3 a0_4 l0_5 l0_6 l0_7)) = some r := h
 clear h
 have HC2 := am H
 clear H
 go_enter Try.func108, Try.ntmps108
 go_upto_region 1 with (first | ((with_reducible refine gate_dst (N := 1) rfl ?_); (try (refine gate_guard (by rfl) ?_; dsimp only)); refine box_event rfl (N := 1) rfl (cs := #[.int .i64 a0_0, .int .i64 a0_1, .int .i64 a0_2, .int .i64 a0_3, .int .i64 a0_4, .slice A0_5 l0_5.length c0_5, .slice A0_6 l0_6.length c0_6, .slice A0_7 l0_7.length c0_7]) (t := 35) rn_ ?_; intro gb600 hg w3 hbox hb; have BK600 := am (hbox); have GW600 := am ((by rw [hg]; exact (below_size ab2_) : w.heap.size ≤ gb600)); have GE600 := am ((by rw [hg]; exact (below_size ab2_) : w.heap.size ≤ gb600)); replace HB := am (below_step ab2_ hb); clear hb hbox hg))
 (try simp only [Act.put, List.setIfInBounds_toArray, List.set_cons_zero, List.set_cons_succ])
 go_cut [12] (fun v12 wc => ∃ (kq : Nat) (x12_1 : Bool), v12 = .bool x12_1 ∧ Aside0 (spec_l11Simple.j0 kq x12_1 a0_0 a0_1 a0_2 a0_3 a0_4 l0_5 l0_6 l0_7 = some r) ∧ Aside0 (kq ≤ k) ∧ Aside0 (wc.heap[gb600]? = some (.cells #[.int .i64 a0_0, .int .i64 a0_1, .int .i64 a0_2, .int .i64 a0_3, .int .i64 a0_4, (.slice A0_5 l0_5.length c0_5), (.slice A0_6 l0_6.length c0_6), (.slice A0_7 l0_7.length c0_7)] 35 (0, 0))) ∧ Aside0 (Below w.heap.size w wc))
 case first =>
  have H := HC2.out
  clear HC2
  by_cases c4 : (l0_6.length : Int) > 0
  ·rw [if_pos c4] at H
   have c4b0 : decide (0 < (l0_6.length : Int)) = true := decide_eq_true c4
   have c4b1 : decide (0 < l0_6.length) = true := decide_eq_true (by omega)
   clear c4
   (first | rw [c4b0] | (simp only [i64_w, i32_w]; rw [c4b0]) | skip)
   have H' := am H
   clear H
   obtain ⟨hcz5_0, hcz5_1, hcz5_2, hcz5_3, hcz5_4, hcz5_5, hcz5_6, hcz5_7, hfz5_0, hfz5_1, hfz5_2, hfz5_3, hfz5_4, hfz5_5, hfz5_6, hfz5_7⟩ := bcf8_ BK600.out
   go_wp2
   go_meet
   case rel => exact ⟨_, (true), sd_, H', ⟨by first | omega | exact Nat.le_refl _⟩, ⟨by (with_reducible repeat (first | refine blk_drewN ?_ _ | refine blk_drew ?_ | refine blk_alloc ?_ _)); exact BK600.out⟩, ⟨ab6_⟩⟩
  rw [if_neg c4] at H
  have c4b0 : decide (0 < (l0_6.length : Int)) = false := decide_eq_false c4
  have c4b1 : decide (0 < l0_6.length) = false := decide_eq_false (by omega)
  clear c4
  (first | rw [c4b0] | (simp only [i64_w, i32_w]; rw [c4b0]) | skip)
  have H' := am H
  clear H
  obtain ⟨hcz6_0, hcz6_1, hcz6_2, hcz6_3, hcz6_4, hcz6_5, hcz6_6, hcz6_7, hfz6_0, hfz6_1, hfz6_2, hfz6_3, hfz6_4, hfz6_5, hfz6_6, hfz6_7⟩ := bcf8_ BK600.out
  go_wp2
  go_meet
  case rel => exact ⟨_, (decide ((l0_7.length : Int) > 0)), sd_, H', ⟨by first | omega | exact Nat.le_refl _⟩, ⟨by (with_reducible repeat (first | refine blk_drewN ?_ _ | refine blk_drew ?_ | refine blk_alloc ?_ _)); exact BK600.out⟩, ⟨ab6_⟩⟩
 case rest =>
  clear HC2
  obtain ⟨kq, x12_1, rfl, HA, HJ1, BK600, HB⟩ := hcut
  cases kq with
  | zero => exact absurd HA.out (by simp [spec_l11Simple.j0])
  | succ kj1 =>
   have H := HA.out
   clear HA
   simp only [spec_l11Simple.j0] at H
   by_cases c7 : x12_1 = true
   ·subst c7
    rw [if_pos rfl] at H
    obtain rfl := Option.some.inj H
    go_wp2
    go_ret
    exact ⟨rr_, ab6_⟩
   replace c7 := Bool.eq_false_iff.mpr c7
   subst c7
   rw [if_neg (show ¬ (false = true) by decide)] at H
   by_cases c8 : a0_0 = 1
   ·rw [if_pos c8] at H
    have c8b0 : (a0_0 == 1) = true := beq_iff_eq.mpr c8
    have c8b1 : (a0_0 != 1) = false := bne_eq_false_iff_eq.mpr c8
    clear c8
    obtain ⟨t601, A90, H⟩ := bsm H
    (try dsimp only at H)
    have A9 := am A90
    clear A90
    by_cases c10 : t601 = true
    ·subst c10
     rw [if_pos rfl] at H
     obtain ⟨t602, A110, H⟩ := bsm H
     (try dsimp only at H)
     have A11 := am A110
     clear A110
     by_cases c12 : t602 = true
     ·subst c12
      rw [if_pos rfl] at H
      obtain ⟨t603, A130, H⟩ := bsm H
      (try dsimp only at H)
      have A13 := am A130
      clear A130
      obtain rfl := Option.some.inj H
      obtain ⟨hcz14_0, hcz14_1, hcz14_2, hcz14_3, hcz14_4, hcz14_5, hcz14_6, hcz14_7, hfz14_0, hfz14_1, hfz14_2, hfz14_3, hfz14_4, hfz14_5, hfz14_6, hfz14_7⟩ := bcf8_ BK600.out
      go_wp2_with (first | ((with_reducible refine gate_callee (f := 109) rfl ?_); refine goesL_ (some 18) rfl rfl Try.func109 (by kernel_rfl) rfl #[.agg #[.int .i64 a0_0, .int .i64 a0_1, .int .i64 a0_2, .int .i64 a0_3, .int .i64 a0_4, .slice A0_5 l0_5.length c0_5, .slice A0_6 l0_6.length c0_6, .slice A0_7 l0_7.length c0_7], .bool true] rfl ab1_ ?_; (with_reducible refine (spec_l11Var.calls a0_0 a0_1 a0_2 a0_3 a0_4 _ _ l0_5 _ _ l0_6 _ _ l0_7 true true _ (aC_ (Kd.C_below HR0_5.out HB.out)) HC0_5.out (aC_ (Kd.C_below HR0_6.out HB.out)) HC0_6.out (aC_ (Kd.C_below HR0_7.out HB.out)) HC0_7.out A9.out).mono ?_); rintro e w15 ⟨rfl, hb⟩; refine ⟨_, rfl, ?_⟩; replace BK600 := am (bbl_ BK600.out hb); replace HB := am (below_step ab6_ hb); (try clear hb); (try clear hb2); (try clear hk); (try clear hi); obtain ⟨hcz16_0, hcz16_1, hcz16_2, hcz16_3, hcz16_4, hcz16_5, hcz16_6, hcz16_7, hfz16_0, hfz16_1, hfz16_2, hfz16_3, hfz16_4, hfz16_5, hfz16_6, hfz16_7⟩ := bcf8_ BK600.out) | (go_at_call 110; (with_reducible refine (spec_l11Box.calls a0_0 a0_1 a0_2 a0_3 a0_4 _ _ l0_5 _ _ l0_6 _ _ l0_7 false true _ (aC_ (Kd.C_below HR0_5.out HB.out)) HC0_5.out (aC_ (Kd.C_below HR0_6.out HB.out)) HC0_6.out (aC_ (Kd.C_below HR0_7.out HB.out)) HC0_7.out A11.out).mono ?_); rintro e w17 ⟨rfl, hb⟩; replace BK600 := am (bbl_ BK600.out hb); replace HB := am (below_step ab6_ hb); (try clear hb); (try clear hb2); (try clear hk); (try clear hi); obtain ⟨hcz18_0, hcz18_1, hcz18_2, hcz18_3, hcz18_4, hcz18_5, hcz18_6, hcz18_7, hfz18_0, hfz18_1, hfz18_2, hfz18_3, hfz18_4, hfz18_5, hfz18_6, hfz18_7⟩ := bcf8_ BK600.out) | (go_at_call 111; (with_reducible refine (spec_ExprValid.calls kj1 a0_3 a0_4 _ _ l0_5 t603 _ (aC_ (Kd.C_below HR0_5.out HB.out)) HC0_5.out A13.out).mono ?_); rintro e w19 ⟨rfl, hb⟩; replace BK600 := am (bbl_ BK600.out hb); replace HB := am (below_step ab6_ hb); (try clear hb); (try clear hb2); (try clear hk); (try clear hi)))
      go_ret
      exact ⟨rr_, ab6_⟩
     replace c12 := Bool.eq_false_iff.mpr c12
     subst c12
     rw [if_neg (show ¬ (false = true) by decide)] at H
     obtain rfl := Option.some.inj H
     obtain ⟨hcz20_0, hcz20_1, hcz20_2, hcz20_3, hcz20_4, hcz20_5, hcz20_6, hcz20_7, hfz20_0, hfz20_1, hfz20_2, hfz20_3, hfz20_4, hfz20_5, hfz20_6, hfz20_7⟩ := bcf8_ BK600.out
     go_wp2_with (first | ((with_reducible refine gate_callee (f := 109) rfl ?_); refine goesL_ (some 18) rfl rfl Try.func109 (by kernel_rfl) rfl #[.agg #[.int .i64 a0_0, .int .i64 a0_1, .int .i64 a0_2, .int .i64 a0_3, .int .i64 a0_4, .slice A0_5 l0_5.length c0_5, .slice A0_6 l0_6.length c0_6, .slice A0_7 l0_7.length c0_7], .bool true] rfl ab1_ ?_; (with_reducible refine (spec_l11Var.calls a0_0 a0_1 a0_2 a0_3 a0_4 _ _ l0_5 _ _ l0_6 _ _ l0_7 true true _ (aC_ (Kd.C_below HR0_5.out HB.out)) HC0_5.out (aC_ (Kd.C_below HR0_6.out HB.out)) HC0_6.out (aC_ (Kd.C_below HR0_7.out HB.out)) HC0_7.out A9.out).mono ?_); rintro e w21 ⟨rfl, hb⟩; refine ⟨_, rfl, ?_⟩; replace BK600 := am (bbl_ BK600.out hb); replace HB := am (below_step ab6_ hb); (try clear hb); (try clear hb2); (try clear hk); (try clear hi); obtain ⟨hcz22_0, hcz22_1, hcz22_2, hcz22_3, hcz22_4, hcz22_5, hcz22_6, hcz22_7, hfz22_0, hfz22_1, hfz22_2, hfz22_3, hfz22_4, hfz22_5, hfz22_6, hfz22_7⟩ := bcf8_ BK600.out) | (go_at_call 110; (with_reducible refine (spec_l11Box.calls a0_0 a0_1 a0_2 a0_3 a0_4 _ _ l0_5 _ _ l0_6 _ _ l0_7 false false _ (aC_ (Kd.C_below HR0_5.out HB.out)) HC0_5.out (aC_ (Kd.C_below HR0_6.out HB.out)) HC0_6.out (aC_ (Kd.C_below HR0_7.out HB.out)) HC0_7.out A11.out).mono ?_); rintro e w23 ⟨rfl, hb⟩; replace BK600 := am (bbl_ BK600.out hb); replace HB := am (below_step ab6_ hb); (try clear hb); (try clear hb2); (try clear hk); (try clear hi)))
     go_ret
     exact ⟨rr_, ab6_⟩
    replace c10 := Bool.eq_false_iff.mpr c10
    subst c10
    rw [if_neg (show ¬ (false = true) by decide)] at H
    obtain rfl := Option.some.inj H
    obtain ⟨hcz24_0, hcz24_1, hcz24_2, hcz24_3, hcz24_4, hcz24_5, hcz24_6, hcz24_7, hfz24_0, hfz24_1, hfz24_2, hfz24_3, hfz24_4, hfz24_5, hfz24_6, hfz24_7⟩ := bcf8_ BK600.out
    go_wp2_with (first | ((with_reducible refine gate_callee (f := 109) rfl ?_); refine goesL_ (some 18) rfl rfl Try.func109 (by kernel_rfl) rfl #[.agg #[.int .i64 a0_0, .int .i64 a0_1, .int .i64 a0_2, .int .i64 a0_3, .int .i64 a0_4, .slice A0_5 l0_5.length c0_5, .slice A0_6 l0_6.length c0_6, .slice A0_7 l0_7.length c0_7], .bool true] rfl ab1_ ?_; (with_reducible refine (spec_l11Var.calls a0_0 a0_1 a0_2 a0_3 a0_4 _ _ l0_5 _ _ l0_6 _ _ l0_7 true false _ (aC_ (Kd.C_below HR0_5.out HB.out)) HC0_5.out (aC_ (Kd.C_below HR0_6.out HB.out)) HC0_6.out (aC_ (Kd.C_below HR0_7.out HB.out)) HC0_7.out A9.out).mono ?_); rintro e w25 ⟨rfl, hb⟩; refine ⟨_, rfl, ?_⟩; replace BK600 := am (bbl_ BK600.out hb); replace HB := am (below_step ab6_ hb); (try clear hb); (try clear hb2); (try clear hk); (try clear hi)))
    go_ret
    exact ⟨rr_, ab6_⟩
   rw [if_neg c8] at H
   have c8b0 : (a0_0 == 1) = false := beq_eq_false_iff_ne.mpr c8
   have c8b1 : (a0_0 != 1) = true := bne_iff_ne.mpr c8
   by_cases c26 : a0_0 = 4
   ·rw [if_pos c26] at H
    have c26b0 : (a0_0 == 4) = true := beq_iff_eq.mpr c26
    have c26b1 : (a0_0 != 4) = false := bne_eq_false_iff_eq.mpr c26
    clear c26
    obtain ⟨t604, A270, H⟩ := bsm H
    (try dsimp only at H)
    have A27 := am A270
    clear A270
    by_cases c28 : t604 = true
    ·subst c28
     rw [if_pos rfl] at H
     obtain ⟨t605, A290, H⟩ := bsm H
     (try dsimp only at H)
     have A29 := am A290
     clear A290
     by_cases c30 : t605 = true
     ·subst c30
      rw [if_pos rfl] at H
      obtain ⟨t606, A310, H⟩ := bsm H
      (try dsimp only at H)
      have A31 := am A310
      clear A310
      obtain rfl := Option.some.inj H
      obtain ⟨hcz32_0, hcz32_1, hcz32_2, hcz32_3, hcz32_4, hcz32_5, hcz32_6, hcz32_7, hfz32_0, hfz32_1, hfz32_2, hfz32_3, hfz32_4, hfz32_5, hfz32_6, hfz32_7⟩ := bcf8_ BK600.out
      go_wp2_with (first | ((with_reducible refine gate_callee (f := 109) rfl ?_); refine goesL_ (some 31) rfl rfl Try.func109 (by kernel_rfl) rfl #[.agg #[.int .i64 a0_0, .int .i64 a0_1, .int .i64 a0_2, .int .i64 a0_3, .int .i64 a0_4, .slice A0_5 l0_5.length c0_5, .slice A0_6 l0_6.length c0_6, .slice A0_7 l0_7.length c0_7], .bool false] rfl ab1_ ?_; (with_reducible refine (spec_l11Var.calls a0_0 a0_1 a0_2 a0_3 a0_4 _ _ l0_5 _ _ l0_6 _ _ l0_7 false true _ (aC_ (Kd.C_below HR0_5.out HB.out)) HC0_5.out (aC_ (Kd.C_below HR0_6.out HB.out)) HC0_6.out (aC_ (Kd.C_below HR0_7.out HB.out)) HC0_7.out A27.out).mono ?_); rintro e w33 ⟨rfl, hb⟩; refine ⟨_, rfl, ?_⟩; replace BK600 := am (bbl_ BK600.out hb); replace HB := am (below_step ab6_ hb); (try clear hb); (try clear hb2); (try clear hk); (try clear hi); obtain ⟨hcz34_0, hcz34_1, hcz34_2, hcz34_3, hcz34_4, hcz34_5, hcz34_6, hcz34_7, hfz34_0, hfz34_1, hfz34_2, hfz34_3, hfz34_4, hfz34_5, hfz34_6, hfz34_7⟩ := bcf8_ BK600.out) | (go_at_call 110; (with_reducible refine (spec_l11Box.calls a0_0 a0_1 a0_2 a0_3 a0_4 _ _ l0_5 _ _ l0_6 _ _ l0_7 true true _ (aC_ (Kd.C_below HR0_5.out HB.out)) HC0_5.out (aC_ (Kd.C_below HR0_6.out HB.out)) HC0_6.out (aC_ (Kd.C_below HR0_7.out HB.out)) HC0_7.out A29.out).mono ?_); rintro e w35 ⟨rfl, hb⟩; replace BK600 := am (bbl_ BK600.out hb); replace HB := am (below_step ab6_ hb); (try clear hb); (try clear hb2); (try clear hk); (try clear hi); obtain ⟨hcz36_0, hcz36_1, hcz36_2, hcz36_3, hcz36_4, hcz36_5, hcz36_6, hcz36_7, hfz36_0, hfz36_1, hfz36_2, hfz36_3, hfz36_4, hfz36_5, hfz36_6, hfz36_7⟩ := bcf8_ BK600.out) | (go_at_call 111; (with_reducible refine (spec_ExprValid.calls kj1 a0_3 a0_4 _ _ l0_5 t606 _ (aC_ (Kd.C_below HR0_5.out HB.out)) HC0_5.out A31.out).mono ?_); rintro e w37 ⟨rfl, hb⟩; replace BK600 := am (bbl_ BK600.out hb); replace HB := am (below_step ab6_ hb); (try clear hb); (try clear hb2); (try clear hk); (try clear hi)))
      go_ret
      exact ⟨rr_, ab6_⟩
     replace c30 := Bool.eq_false_iff.mpr c30
     subst c30
     rw [if_neg (show ¬ (false = true) by decide)] at H
     obtain rfl := Option.some.inj H
     obtain ⟨hcz38_0, hcz38_1, hcz38_2, hcz38_3, hcz38_4, hcz38_5, hcz38_6, hcz38_7, hfz38_0, hfz38_1, hfz38_2, hfz38_3, hfz38_4, hfz38_5, hfz38_6, hfz38_7⟩ := bcf8_ BK600.out
     go_wp2_with (first | ((with_reducible refine gate_callee (f := 109) rfl ?_); refine goesL_ (some 31) rfl rfl Try.func109 (by kernel_rfl) rfl #[.agg #[.int .i64 a0_0, .int .i64 a0_1, .int .i64 a0_2, .int .i64 a0_3, .int .i64 a0_4, .slice A0_5 l0_5.length c0_5, .slice A0_6 l0_6.length c0_6, .slice A0_7 l0_7.length c0_7], .bool false] rfl ab1_ ?_; (with_reducible refine (spec_l11Var.calls a0_0 a0_1 a0_2 a0_3 a0_4 _ _ l0_5 _ _ l0_6 _ _ l0_7 false true _ (aC_ (Kd.C_below HR0_5.out HB.out)) HC0_5.out (aC_ (Kd.C_below HR0_6.out HB.out)) HC0_6.out (aC_ (Kd.C_below HR0_7.out HB.out)) HC0_7.out A27.out).mono ?_); rintro e w39 ⟨rfl, hb⟩; refine ⟨_, rfl, ?_⟩; replace BK600 := am (bbl_ BK600.out hb); replace HB := am (below_step ab6_ hb); (try clear hb); (try clear hb2); (try clear hk); (try clear hi); obtain ⟨hcz40_0, hcz40_1, hcz40_2, hcz40_3, hcz40_4, hcz40_5, hcz40_6, hcz40_7, hfz40_0, hfz40_1, hfz40_2, hfz40_3, hfz40_4, hfz40_5, hfz40_6, hfz40_7⟩ := bcf8_ BK600.out) | (go_at_call 110; (with_reducible refine (spec_l11Box.calls a0_0 a0_1 a0_2 a0_3 a0_4 _ _ l0_5 _ _ l0_6 _ _ l0_7 true false _ (aC_ (Kd.C_below HR0_5.out HB.out)) HC0_5.out (aC_ (Kd.C_below HR0_6.out HB.out)) HC0_6.out (aC_ (Kd.C_below HR0_7.out HB.out)) HC0_7.out A29.out).mono ?_); rintro e w41 ⟨rfl, hb⟩; replace BK600 := am (bbl_ BK600.out hb); replace HB := am (below_step ab6_ hb); (try clear hb); (try clear hb2); (try clear hk); (try clear hi)))
     go_ret
     exact ⟨rr_, ab6_⟩
    replace c28 := Bool.eq_false_iff.mpr c28
    subst c28
    rw [if_neg (show ¬ (false = true) by decide)] at H
    obtain rfl := Option.some.inj H
    obtain ⟨hcz42_0, hcz42_1, hcz42_2, hcz42_3, hcz42_4, hcz42_5, hcz42_6, hcz42_7, hfz42_0, hfz42_1, hfz42_2, hfz42_3, hfz42_4, hfz42_5, hfz42_6, hfz42_7⟩ := bcf8_ BK600.out
    go_wp2_with (first | ((with_reducible refine gate_callee (f := 109) rfl ?_); refine goesL_ (some 31) rfl rfl Try.func109 (by kernel_rfl) rfl #[.agg #[.int .i64 a0_0, .int .i64 a0_1, .int .i64 a0_2, .int .i64 a0_3, .int .i64 a0_4, .slice A0_5 l0_5.length c0_5, .slice A0_6 l0_6.length c0_6, .slice A0_7 l0_7.length c0_7], .bool false] rfl ab1_ ?_; (with_reducible refine (spec_l11Var.calls a0_0 a0_1 a0_2 a0_3 a0_4 _ _ l0_5 _ _ l0_6 _ _ l0_7 false false _ (aC_ (Kd.C_below HR0_5.out HB.out)) HC0_5.out (aC_ (Kd.C_below HR0_6.out HB.out)) HC0_6.out (aC_ (Kd.C_below HR0_7.out HB.out)) HC0_7.out A27.out).mono ?_); rintro e w43 ⟨rfl, hb⟩; refine ⟨_, rfl, ?_⟩; replace BK600 := am (bbl_ BK600.out hb); replace HB := am (below_step ab6_ hb); (try clear hb); (try clear hb2); (try clear hk); (try clear hi)))
    go_ret
    exact ⟨rr_, ab6_⟩
   rw [if_neg c26] at H
   have c26b0 : (a0_0 == 4) = false := beq_eq_false_iff_ne.mpr c26
   have c26b1 : (a0_0 != 4) = true := bne_iff_ne.mpr c26
   by_cases c44 : a0_0 = 5
   ·rw [if_pos c44] at H
    have c44b0 : (a0_0 == 5) = true := beq_iff_eq.mpr c44
    have c44b1 : (a0_0 != 5) = false := bne_eq_false_iff_eq.mpr c44
    clear c44
    obtain ⟨t607, A450, H⟩ := bsm H
    (try dsimp only at H)
    have A45 := am A450
    clear A450
    by_cases c46 : t607 = true
    ·subst c46
     rw [if_pos rfl] at H
     obtain ⟨t608, A470, H⟩ := bsm H
     (try dsimp only at H)
     have A47 := am A470
     clear A470
     by_cases c48 : t608 = true
     ·subst c48
      rw [if_pos rfl] at H
      obtain ⟨t609, A490, H⟩ := bsm H
      (try dsimp only at H)
      have A49 := am A490
      clear A490
      obtain rfl := Option.some.inj H
      obtain ⟨hcz50_0, hcz50_1, hcz50_2, hcz50_3, hcz50_4, hcz50_5, hcz50_6, hcz50_7, hfz50_0, hfz50_1, hfz50_2, hfz50_3, hfz50_4, hfz50_5, hfz50_6, hfz50_7⟩ := bcf8_ BK600.out
      go_wp2_with (first | ((with_reducible refine gate_callee (f := 109) rfl ?_); refine goesL_ (some 44) rfl rfl Try.func109 (by kernel_rfl) rfl #[.agg #[.int .i64 a0_0, .int .i64 a0_1, .int .i64 a0_2, .int .i64 a0_3, .int .i64 a0_4, .slice A0_5 l0_5.length c0_5, .slice A0_6 l0_6.length c0_6, .slice A0_7 l0_7.length c0_7], .bool true] rfl ab1_ ?_; (with_reducible refine (spec_l11Var.calls a0_0 a0_1 a0_2 a0_3 a0_4 _ _ l0_5 _ _ l0_6 _ _ l0_7 true true _ (aC_ (Kd.C_below HR0_5.out HB.out)) HC0_5.out (aC_ (Kd.C_below HR0_6.out HB.out)) HC0_6.out (aC_ (Kd.C_below HR0_7.out HB.out)) HC0_7.out A45.out).mono ?_); rintro e w51 ⟨rfl, hb⟩; refine ⟨_, rfl, ?_⟩; replace BK600 := am (bbl_ BK600.out hb); replace HB := am (below_step ab6_ hb); (try clear hb); (try clear hb2); (try clear hk); (try clear hi); obtain ⟨hcz52_0, hcz52_1, hcz52_2, hcz52_3, hcz52_4, hcz52_5, hcz52_6, hcz52_7, hfz52_0, hfz52_1, hfz52_2, hfz52_3, hfz52_4, hfz52_5, hfz52_6, hfz52_7⟩ := bcf8_ BK600.out) | (go_at_call 110; (with_reducible refine (spec_l11Box.calls a0_0 a0_1 a0_2 a0_3 a0_4 _ _ l0_5 _ _ l0_6 _ _ l0_7 true true _ (aC_ (Kd.C_below HR0_5.out HB.out)) HC0_5.out (aC_ (Kd.C_below HR0_6.out HB.out)) HC0_6.out (aC_ (Kd.C_below HR0_7.out HB.out)) HC0_7.out A47.out).mono ?_); rintro e w53 ⟨rfl, hb⟩; replace BK600 := am (bbl_ BK600.out hb); replace HB := am (below_step ab6_ hb); (try clear hb); (try clear hb2); (try clear hk); (try clear hi); obtain ⟨hcz54_0, hcz54_1, hcz54_2, hcz54_3, hcz54_4, hcz54_5, hcz54_6, hcz54_7, hfz54_0, hfz54_1, hfz54_2, hfz54_3, hfz54_4, hfz54_5, hfz54_6, hfz54_7⟩ := bcf8_ BK600.out) | (go_at_call 115; (with_reducible refine (spec_l11Plain.calls a0_3 a0_4 _ _ l0_5 t609 _ (aC_ (Kd.C_below HR0_5.out HB.out)) HC0_5.out A49.out).mono ?_); rintro e w55 ⟨rfl, hb⟩; replace BK600 := am (bbl_ BK600.out hb); replace HB := am (below_step ab6_ hb); (try clear hb); (try clear hb2); (try clear hk); (try clear hi)))
      go_ret
      exact ⟨rr_, ab6_⟩
     replace c48 := Bool.eq_false_iff.mpr c48
     subst c48
     rw [if_neg (show ¬ (false = true) by decide)] at H
     obtain rfl := Option.some.inj H
     obtain ⟨hcz56_0, hcz56_1, hcz56_2, hcz56_3, hcz56_4, hcz56_5, hcz56_6, hcz56_7, hfz56_0, hfz56_1, hfz56_2, hfz56_3, hfz56_4, hfz56_5, hfz56_6, hfz56_7⟩ := bcf8_ BK600.out
     go_wp2_with (first | ((with_reducible refine gate_callee (f := 109) rfl ?_); refine goesL_ (some 44) rfl rfl Try.func109 (by kernel_rfl) rfl #[.agg #[.int .i64 a0_0, .int .i64 a0_1, .int .i64 a0_2, .int .i64 a0_3, .int .i64 a0_4, .slice A0_5 l0_5.length c0_5, .slice A0_6 l0_6.length c0_6, .slice A0_7 l0_7.length c0_7], .bool true] rfl ab1_ ?_; (with_reducible refine (spec_l11Var.calls a0_0 a0_1 a0_2 a0_3 a0_4 _ _ l0_5 _ _ l0_6 _ _ l0_7 true true _ (aC_ (Kd.C_below HR0_5.out HB.out)) HC0_5.out (aC_ (Kd.C_below HR0_6.out HB.out)) HC0_6.out (aC_ (Kd.C_below HR0_7.out HB.out)) HC0_7.out A45.out).mono ?_); rintro e w57 ⟨rfl, hb⟩; refine ⟨_, rfl, ?_⟩; replace BK600 := am (bbl_ BK600.out hb); replace HB := am (below_step ab6_ hb); (try clear hb); (try clear hb2); (try clear hk); (try clear hi); obtain ⟨hcz58_0, hcz58_1, hcz58_2, hcz58_3, hcz58_4, hcz58_5, hcz58_6, hcz58_7, hfz58_0, hfz58_1, hfz58_2, hfz58_3, hfz58_4, hfz58_5, hfz58_6, hfz58_7⟩ := bcf8_ BK600.out) | (go_at_call 110; (with_reducible refine (spec_l11Box.calls a0_0 a0_1 a0_2 a0_3 a0_4 _ _ l0_5 _ _ l0_6 _ _ l0_7 true false _ (aC_ (Kd.C_below HR0_5.out HB.out)) HC0_5.out (aC_ (Kd.C_below HR0_6.out HB.out)) HC0_6.out (aC_ (Kd.C_below HR0_7.out HB.out)) HC0_7.out A47.out).mono ?_); rintro e w59 ⟨rfl, hb⟩; replace BK600 := am (bbl_ BK600.out hb); replace HB := am (below_step ab6_ hb); (try clear hb); (try clear hb2); (try clear hk); (try clear hi)))
     go_ret
     exact ⟨rr_, ab6_⟩
    replace c46 := Bool.eq_false_iff.mpr c46
    subst c46
    rw [if_neg (show ¬ (false = true) by decide)] at H
    obtain rfl := Option.some.inj H
    obtain ⟨hcz60_0, hcz60_1, hcz60_2, hcz60_3, hcz60_4, hcz60_5, hcz60_6, hcz60_7, hfz60_0, hfz60_1, hfz60_2, hfz60_3, hfz60_4, hfz60_5, hfz60_6, hfz60_7⟩ := bcf8_ BK600.out
    go_wp2_with (first | ((with_reducible refine gate_callee (f := 109) rfl ?_); refine goesL_ (some 44) rfl rfl Try.func109 (by kernel_rfl) rfl #[.agg #[.int .i64 a0_0, .int .i64 a0_1, .int .i64 a0_2, .int .i64 a0_3, .int .i64 a0_4, .slice A0_5 l0_5.length c0_5, .slice A0_6 l0_6.length c0_6, .slice A0_7 l0_7.length c0_7], .bool true] rfl ab1_ ?_; (with_reducible refine (spec_l11Var.calls a0_0 a0_1 a0_2 a0_3 a0_4 _ _ l0_5 _ _ l0_6 _ _ l0_7 true false _ (aC_ (Kd.C_below HR0_5.out HB.out)) HC0_5.out (aC_ (Kd.C_below HR0_6.out HB.out)) HC0_6.out (aC_ (Kd.C_below HR0_7.out HB.out)) HC0_7.out A45.out).mono ?_); rintro e w61 ⟨rfl, hb⟩; refine ⟨_, rfl, ?_⟩; replace BK600 := am (bbl_ BK600.out hb); replace HB := am (below_step ab6_ hb); (try clear hb); (try clear hb2); (try clear hk); (try clear hi)))
    go_ret
    exact ⟨rr_, ab6_⟩
   rw [if_neg c44] at H
   have c44b0 : (a0_0 == 5) = false := beq_eq_false_iff_ne.mpr c44
   have c44b1 : (a0_0 != 5) = true := bne_iff_ne.mpr c44
   by_cases c62 : a0_0 = 6
   ·rw [if_pos c62] at H
    have c62b0 : (a0_0 == 6) = true := beq_iff_eq.mpr c62
    have c62b1 : (a0_0 != 6) = false := bne_eq_false_iff_eq.mpr c62
    clear c62
    obtain ⟨t610, A630, H⟩ := bsm H
    (try dsimp only at H)
    have A63 := am A630
    clear A630
    by_cases c64 : t610 = true
    ·subst c64
     rw [if_pos rfl] at H
     obtain ⟨t611, A650, H⟩ := bsm H
     (try dsimp only at H)
     have A65 := am A650
     clear A650
     by_cases c66 : t611 = true
     ·subst c66
      rw [if_pos rfl] at H
      obtain ⟨t612, A670, H⟩ := bsm H
      (try dsimp only at H)
      have A67 := am A670
      clear A670
      obtain rfl := Option.some.inj H
      obtain ⟨hcz68_0, hcz68_1, hcz68_2, hcz68_3, hcz68_4, hcz68_5, hcz68_6, hcz68_7, hfz68_0, hfz68_1, hfz68_2, hfz68_3, hfz68_4, hfz68_5, hfz68_6, hfz68_7⟩ := bcf8_ BK600.out
      go_wp2_with (first | ((with_reducible refine gate_callee (f := 109) rfl ?_); refine goesL_ (some 57) rfl rfl Try.func109 (by kernel_rfl) rfl #[.agg #[.int .i64 a0_0, .int .i64 a0_1, .int .i64 a0_2, .int .i64 a0_3, .int .i64 a0_4, .slice A0_5 l0_5.length c0_5, .slice A0_6 l0_6.length c0_6, .slice A0_7 l0_7.length c0_7], .bool false] rfl ab1_ ?_; (with_reducible refine (spec_l11Var.calls a0_0 a0_1 a0_2 a0_3 a0_4 _ _ l0_5 _ _ l0_6 _ _ l0_7 false true _ (aC_ (Kd.C_below HR0_5.out HB.out)) HC0_5.out (aC_ (Kd.C_below HR0_6.out HB.out)) HC0_6.out (aC_ (Kd.C_below HR0_7.out HB.out)) HC0_7.out A63.out).mono ?_); rintro e w69 ⟨rfl, hb⟩; refine ⟨_, rfl, ?_⟩; replace BK600 := am (bbl_ BK600.out hb); replace HB := am (below_step ab6_ hb); (try clear hb); (try clear hb2); (try clear hk); (try clear hi); obtain ⟨hcz70_0, hcz70_1, hcz70_2, hcz70_3, hcz70_4, hcz70_5, hcz70_6, hcz70_7, hfz70_0, hfz70_1, hfz70_2, hfz70_3, hfz70_4, hfz70_5, hfz70_6, hfz70_7⟩ := bcf8_ BK600.out) | (go_at_call 110; (with_reducible refine (spec_l11Box.calls a0_0 a0_1 a0_2 a0_3 a0_4 _ _ l0_5 _ _ l0_6 _ _ l0_7 false true _ (aC_ (Kd.C_below HR0_5.out HB.out)) HC0_5.out (aC_ (Kd.C_below HR0_6.out HB.out)) HC0_6.out (aC_ (Kd.C_below HR0_7.out HB.out)) HC0_7.out A65.out).mono ?_); rintro e w71 ⟨rfl, hb⟩; replace BK600 := am (bbl_ BK600.out hb); replace HB := am (below_step ab6_ hb); (try clear hb); (try clear hb2); (try clear hk); (try clear hi); obtain ⟨hcz72_0, hcz72_1, hcz72_2, hcz72_3, hcz72_4, hcz72_5, hcz72_6, hcz72_7, hfz72_0, hfz72_1, hfz72_2, hfz72_3, hfz72_4, hfz72_5, hfz72_6, hfz72_7⟩ := bcf8_ BK600.out) | (go_at_call 115; (with_reducible refine (spec_l11Plain.calls a0_3 a0_4 _ _ l0_5 t612 _ (aC_ (Kd.C_below HR0_5.out HB.out)) HC0_5.out A67.out).mono ?_); rintro e w73 ⟨rfl, hb⟩; replace BK600 := am (bbl_ BK600.out hb); replace HB := am (below_step ab6_ hb); (try clear hb); (try clear hb2); (try clear hk); (try clear hi)))
      go_ret
      exact ⟨rr_, ab6_⟩
     replace c66 := Bool.eq_false_iff.mpr c66
     subst c66
     rw [if_neg (show ¬ (false = true) by decide)] at H
     obtain rfl := Option.some.inj H
     obtain ⟨hcz74_0, hcz74_1, hcz74_2, hcz74_3, hcz74_4, hcz74_5, hcz74_6, hcz74_7, hfz74_0, hfz74_1, hfz74_2, hfz74_3, hfz74_4, hfz74_5, hfz74_6, hfz74_7⟩ := bcf8_ BK600.out
     go_wp2_with (first | ((with_reducible refine gate_callee (f := 109) rfl ?_); refine goesL_ (some 57) rfl rfl Try.func109 (by kernel_rfl) rfl #[.agg #[.int .i64 a0_0, .int .i64 a0_1, .int .i64 a0_2, .int .i64 a0_3, .int .i64 a0_4, .slice A0_5 l0_5.length c0_5, .slice A0_6 l0_6.length c0_6, .slice A0_7 l0_7.length c0_7], .bool false] rfl ab1_ ?_; (with_reducible refine (spec_l11Var.calls a0_0 a0_1 a0_2 a0_3 a0_4 _ _ l0_5 _ _ l0_6 _ _ l0_7 false true _ (aC_ (Kd.C_below HR0_5.out HB.out)) HC0_5.out (aC_ (Kd.C_below HR0_6.out HB.out)) HC0_6.out (aC_ (Kd.C_below HR0_7.out HB.out)) HC0_7.out A63.out).mono ?_); rintro e w75 ⟨rfl, hb⟩; refine ⟨_, rfl, ?_⟩; replace BK600 := am (bbl_ BK600.out hb); replace HB := am (below_step ab6_ hb); (try clear hb); (try clear hb2); (try clear hk); (try clear hi); obtain ⟨hcz76_0, hcz76_1, hcz76_2, hcz76_3, hcz76_4, hcz76_5, hcz76_6, hcz76_7, hfz76_0, hfz76_1, hfz76_2, hfz76_3, hfz76_4, hfz76_5, hfz76_6, hfz76_7⟩ := bcf8_ BK600.out) | (go_at_call 110; (with_reducible refine (spec_l11Box.calls a0_0 a0_1 a0_2 a0_3 a0_4 _ _ l0_5 _ _ l0_6 _ _ l0_7 false false _ (aC_ (Kd.C_below HR0_5.out HB.out)) HC0_5.out (aC_ (Kd.C_below HR0_6.out HB.out)) HC0_6.out (aC_ (Kd.C_below HR0_7.out HB.out)) HC0_7.out A65.out).mono ?_); rintro e w77 ⟨rfl, hb⟩; replace BK600 := am (bbl_ BK600.out hb); replace HB := am (below_step ab6_ hb); (try clear hb); (try clear hb2); (try clear hk); (try clear hi)))
     go_ret
     exact ⟨rr_, ab6_⟩
    replace c64 := Bool.eq_false_iff.mpr c64
    subst c64
    rw [if_neg (show ¬ (false = true) by decide)] at H
    obtain rfl := Option.some.inj H
    obtain ⟨hcz78_0, hcz78_1, hcz78_2, hcz78_3, hcz78_4, hcz78_5, hcz78_6, hcz78_7, hfz78_0, hfz78_1, hfz78_2, hfz78_3, hfz78_4, hfz78_5, hfz78_6, hfz78_7⟩ := bcf8_ BK600.out
    go_wp2_with (first | ((with_reducible refine gate_callee (f := 109) rfl ?_); refine goesL_ (some 57) rfl rfl Try.func109 (by kernel_rfl) rfl #[.agg #[.int .i64 a0_0, .int .i64 a0_1, .int .i64 a0_2, .int .i64 a0_3, .int .i64 a0_4, .slice A0_5 l0_5.length c0_5, .slice A0_6 l0_6.length c0_6, .slice A0_7 l0_7.length c0_7], .bool false] rfl ab1_ ?_; (with_reducible refine (spec_l11Var.calls a0_0 a0_1 a0_2 a0_3 a0_4 _ _ l0_5 _ _ l0_6 _ _ l0_7 false false _ (aC_ (Kd.C_below HR0_5.out HB.out)) HC0_5.out (aC_ (Kd.C_below HR0_6.out HB.out)) HC0_6.out (aC_ (Kd.C_below HR0_7.out HB.out)) HC0_7.out A63.out).mono ?_); rintro e w79 ⟨rfl, hb⟩; refine ⟨_, rfl, ?_⟩; replace BK600 := am (bbl_ BK600.out hb); replace HB := am (below_step ab6_ hb); (try clear hb); (try clear hb2); (try clear hk); (try clear hi)))
    go_ret
    exact ⟨rr_, ab6_⟩
   rw [if_neg c62] at H
   have c62b0 : (a0_0 == 6) = false := beq_eq_false_iff_ne.mpr c62
   have c62b1 : (a0_0 != 6) = true := bne_iff_ne.mpr c62
   by_cases c80 : a0_0 = 7
   ·rw [if_pos c80] at H
    have c80b0 : (a0_0 == 7) = true := beq_iff_eq.mpr c80
    have c80b1 : (a0_0 != 7) = false := bne_eq_false_iff_eq.mpr c80
    clear c80
    obtain ⟨t613, A810, H⟩ := bsm H
    (try dsimp only at H)
    have A81 := am A810
    clear A810
    by_cases c82 : t613 = true
    ·subst c82
     rw [if_pos rfl] at H
     obtain ⟨t614, A830, H⟩ := bsm H
     (try dsimp only at H)
     have A83 := am A830
     clear A830
     by_cases c84 : t614 = true
     ·subst c84
      rw [if_pos rfl] at H
      obtain ⟨t615, A850, H⟩ := bsm H
      (try dsimp only at H)
      have A85 := am A850
      clear A850
      obtain rfl := Option.some.inj H
      obtain ⟨hcz86_0, hcz86_1, hcz86_2, hcz86_3, hcz86_4, hcz86_5, hcz86_6, hcz86_7, hfz86_0, hfz86_1, hfz86_2, hfz86_3, hfz86_4, hfz86_5, hfz86_6, hfz86_7⟩ := bcf8_ BK600.out
      go_wp2_with (first | ((with_reducible refine gate_callee (f := 109) rfl ?_); refine goesL_ (some 70) rfl rfl Try.func109 (by kernel_rfl) rfl #[.agg #[.int .i64 a0_0, .int .i64 a0_1, .int .i64 a0_2, .int .i64 a0_3, .int .i64 a0_4, .slice A0_5 l0_5.length c0_5, .slice A0_6 l0_6.length c0_6, .slice A0_7 l0_7.length c0_7], .bool false] rfl ab1_ ?_; (with_reducible refine (spec_l11Var.calls a0_0 a0_1 a0_2 a0_3 a0_4 _ _ l0_5 _ _ l0_6 _ _ l0_7 false true _ (aC_ (Kd.C_below HR0_5.out HB.out)) HC0_5.out (aC_ (Kd.C_below HR0_6.out HB.out)) HC0_6.out (aC_ (Kd.C_below HR0_7.out HB.out)) HC0_7.out A81.out).mono ?_); rintro e w87 ⟨rfl, hb⟩; refine ⟨_, rfl, ?_⟩; replace BK600 := am (bbl_ BK600.out hb); replace HB := am (below_step ab6_ hb); (try clear hb); (try clear hb2); (try clear hk); (try clear hi); obtain ⟨hcz88_0, hcz88_1, hcz88_2, hcz88_3, hcz88_4, hcz88_5, hcz88_6, hcz88_7, hfz88_0, hfz88_1, hfz88_2, hfz88_3, hfz88_4, hfz88_5, hfz88_6, hfz88_7⟩ := bcf8_ BK600.out) | (go_at_call 110; (with_reducible refine (spec_l11Box.calls a0_0 a0_1 a0_2 a0_3 a0_4 _ _ l0_5 _ _ l0_6 _ _ l0_7 false true _ (aC_ (Kd.C_below HR0_5.out HB.out)) HC0_5.out (aC_ (Kd.C_below HR0_6.out HB.out)) HC0_6.out (aC_ (Kd.C_below HR0_7.out HB.out)) HC0_7.out A83.out).mono ?_); rintro e w89 ⟨rfl, hb⟩; replace BK600 := am (bbl_ BK600.out hb); replace HB := am (below_step ab6_ hb); (try clear hb); (try clear hb2); (try clear hk); (try clear hi); obtain ⟨hcz90_0, hcz90_1, hcz90_2, hcz90_3, hcz90_4, hcz90_5, hcz90_6, hcz90_7, hfz90_0, hfz90_1, hfz90_2, hfz90_3, hfz90_4, hfz90_5, hfz90_6, hfz90_7⟩ := bcf8_ BK600.out) | (go_at_call 111; (with_reducible refine (spec_ExprValid.calls kj1 a0_3 a0_4 _ _ l0_5 t615 _ (aC_ (Kd.C_below HR0_5.out HB.out)) HC0_5.out A85.out).mono ?_); rintro e w91 ⟨rfl, hb⟩; replace BK600 := am (bbl_ BK600.out hb); replace HB := am (below_step ab6_ hb); (try clear hb); (try clear hb2); (try clear hk); (try clear hi)))
      go_ret
      exact ⟨rr_, ab6_⟩
     replace c84 := Bool.eq_false_iff.mpr c84
     subst c84
     rw [if_neg (show ¬ (false = true) by decide)] at H
     obtain rfl := Option.some.inj H
     obtain ⟨hcz92_0, hcz92_1, hcz92_2, hcz92_3, hcz92_4, hcz92_5, hcz92_6, hcz92_7, hfz92_0, hfz92_1, hfz92_2, hfz92_3, hfz92_4, hfz92_5, hfz92_6, hfz92_7⟩ := bcf8_ BK600.out
     go_wp2_with (first | ((with_reducible refine gate_callee (f := 109) rfl ?_); refine goesL_ (some 70) rfl rfl Try.func109 (by kernel_rfl) rfl #[.agg #[.int .i64 a0_0, .int .i64 a0_1, .int .i64 a0_2, .int .i64 a0_3, .int .i64 a0_4, .slice A0_5 l0_5.length c0_5, .slice A0_6 l0_6.length c0_6, .slice A0_7 l0_7.length c0_7], .bool false] rfl ab1_ ?_; (with_reducible refine (spec_l11Var.calls a0_0 a0_1 a0_2 a0_3 a0_4 _ _ l0_5 _ _ l0_6 _ _ l0_7 false true _ (aC_ (Kd.C_below HR0_5.out HB.out)) HC0_5.out (aC_ (Kd.C_below HR0_6.out HB.out)) HC0_6.out (aC_ (Kd.C_below HR0_7.out HB.out)) HC0_7.out A81.out).mono ?_); rintro e w93 ⟨rfl, hb⟩; refine ⟨_, rfl, ?_⟩; replace BK600 := am (bbl_ BK600.out hb); replace HB := am (below_step ab6_ hb); (try clear hb); (try clear hb2); (try clear hk); (try clear hi); obtain ⟨hcz94_0, hcz94_1, hcz94_2, hcz94_3, hcz94_4, hcz94_5, hcz94_6, hcz94_7, hfz94_0, hfz94_1, hfz94_2, hfz94_3, hfz94_4, hfz94_5, hfz94_6, hfz94_7⟩ := bcf8_ BK600.out) | (go_at_call 110; (with_reducible refine (spec_l11Box.calls a0_0 a0_1 a0_2 a0_3 a0_4 _ _ l0_5 _ _ l0_6 _ _ l0_7 false false _ (aC_ (Kd.C_below HR0_5.out HB.out)) HC0_5.out (aC_ (Kd.C_below HR0_6.out HB.out)) HC0_6.out (aC_ (Kd.C_below HR0_7.out HB.out)) HC0_7.out A83.out).mono ?_); rintro e w95 ⟨rfl, hb⟩; replace BK600 := am (bbl_ BK600.out hb); replace HB := am (below_step ab6_ hb); (try clear hb); (try clear hb2); (try clear hk); (try clear hi)))
     go_ret
     exact ⟨rr_, ab6_⟩
    replace c82 := Bool.eq_false_iff.mpr c82
    subst c82
    rw [if_neg (show ¬ (false = true) by decide)] at H
    obtain rfl := Option.some.inj H
    obtain ⟨hcz96_0, hcz96_1, hcz96_2, hcz96_3, hcz96_4, hcz96_5, hcz96_6, hcz96_7, hfz96_0, hfz96_1, hfz96_2, hfz96_3, hfz96_4, hfz96_5, hfz96_6, hfz96_7⟩ := bcf8_ BK600.out
    go_wp2_with (first | ((with_reducible refine gate_callee (f := 109) rfl ?_); refine goesL_ (some 70) rfl rfl Try.func109 (by kernel_rfl) rfl #[.agg #[.int .i64 a0_0, .int .i64 a0_1, .int .i64 a0_2, .int .i64 a0_3, .int .i64 a0_4, .slice A0_5 l0_5.length c0_5, .slice A0_6 l0_6.length c0_6, .slice A0_7 l0_7.length c0_7], .bool false] rfl ab1_ ?_; (with_reducible refine (spec_l11Var.calls a0_0 a0_1 a0_2 a0_3 a0_4 _ _ l0_5 _ _ l0_6 _ _ l0_7 false false _ (aC_ (Kd.C_below HR0_5.out HB.out)) HC0_5.out (aC_ (Kd.C_below HR0_6.out HB.out)) HC0_6.out (aC_ (Kd.C_below HR0_7.out HB.out)) HC0_7.out A81.out).mono ?_); rintro e w97 ⟨rfl, hb⟩; refine ⟨_, rfl, ?_⟩; replace BK600 := am (bbl_ BK600.out hb); replace HB := am (below_step ab6_ hb); (try clear hb); (try clear hb2); (try clear hk); (try clear hi)))
    go_ret
    exact ⟨rr_, ab6_⟩
   rw [if_neg c80] at H
   have c80b0 : (a0_0 == 7) = false := beq_eq_false_iff_ne.mpr c80
   have c80b1 : (a0_0 != 7) = true := bne_iff_ne.mpr c80
   obtain rfl := Option.some.inj H
   obtain ⟨hcz98_0, hcz98_1, hcz98_2, hcz98_3, hcz98_4, hcz98_5, hcz98_6, hcz98_7, hfz98_0, hfz98_1, hfz98_2, hfz98_3, hfz98_4, hfz98_5, hfz98_6, hfz98_7⟩ := bcf8_ BK600.out
   go_wp2
   go_ret
   exact ⟨rr_, ab6_⟩
theorem spec_l11Ok.mono_all : ∀ k, (∀ y0 y1 y2 y3 y4 y5 y6 y7 y8, LeO (spec_l11Ok.f k y0 y1 y2 y3 y4 y5 y6 y7 y8) (spec_l11Ok.f (k + 1) y0 y1 y2 y3 y4 y5 y6 y7 y8)) ∧ (∀ y0 y1 y2 y3 y4 y5 y6 y7 y8 y9, LeO (spec_l11Ok.j0 k y0 y1 y2 y3 y4 y5 y6 y7 y8 y9) (spec_l11Ok.j0 (k + 1) y0 y1 y2 y3 y4 y5 y6 y7 y8 y9)) ∧ (∀ y0 y1 y2 y3 y4 y5 y6 y7 y8 y9, LeO (spec_l11Ok.j1 k y0 y1 y2 y3 y4 y5 y6 y7 y8 y9) (spec_l11Ok.j1 (k + 1) y0 y1 y2 y3 y4 y5 y6 y7 y8 y9)) ∧ (∀ y0 y1, LeO (spec_l11Blocks.f k y0 y1) (spec_l11Blocks.f (k + 1) y0 y1)) ∧ (∀ y0 y1 y2, LeO (spec_l11Blocks.l0 k y0 y1 y2) (spec_l11Blocks.l0 (k + 1) y0 y1 y2))
 | 0 => ⟨fun _ _ _ _ _ _ _ _ _ r h => by simp [spec_l11Ok.f] at h, fun _ _ _ _ _ _ _ _ _ _ r h => by simp [spec_l11Ok.j0] at h, fun _ _ _ _ _ _ _ _ _ _ r h => by simp [spec_l11Ok.j1] at h, fun _ _ r h => by simp [spec_l11Blocks.f] at h, fun _ _ _ r h => by simp [spec_l11Blocks.l0] at h⟩
 | k + 1 => by
  obtain ⟨ih0, ih1, ih2, ih3, ih4⟩ := spec_l11Ok.mono_all k
  refine ⟨?_, ?_, ?_, ?_, ?_⟩
  ·intro y0 y1 y2 y3 y4 y5 y6 y7 y8
   unfold spec_l11Ok.f
   repeat' first
   | (with_reducible exact ih0 _ _ _ _ _ _ _ _ _)
   | (with_reducible exact ih1 _ _ _ _ _ _ _ _ _ _)
   | (with_reducible exact ih2 _ _ _ _ _ _ _ _ _ _)
   | (with_reducible exact ih3 _ _)
   | (with_reducible exact ih4 _ _ _)
   | (with_reducible exact spec_ExprValid.mono _ _ _ _)
   | (with_reducible exact spec_l11Simple.mono _ _ _ _ _ _ _ _ _)
   | (with_reducible exact LeO.refl _)
   | (with_reducible exact LeO.none _)
   | (with_reducible refine LeO.ite ?_ ?_)
   | (with_reducible refine LeO.bind ?_ (fun _ => ?_))
  ·intro y0 y1 y2 y3 y4 y5 y6 y7 y8 y9
   unfold spec_l11Ok.j0
   repeat' first
   | (with_reducible exact ih0 _ _ _ _ _ _ _ _ _)
   | (with_reducible exact ih1 _ _ _ _ _ _ _ _ _ _)
   | (with_reducible exact ih2 _ _ _ _ _ _ _ _ _ _)
   | (with_reducible exact ih3 _ _)
   | (with_reducible exact ih4 _ _ _)
   | (with_reducible exact spec_ExprValid.mono _ _ _ _)
   | (with_reducible exact spec_l11Simple.mono _ _ _ _ _ _ _ _ _)
   | (with_reducible exact LeO.refl _)
   | (with_reducible exact LeO.none _)
   | (with_reducible refine LeO.ite ?_ ?_)
   | (with_reducible refine LeO.bind ?_ (fun _ => ?_))
  ·intro y0 y1 y2 y3 y4 y5 y6 y7 y8 y9
   unfold spec_l11Ok.j1
   repeat' first
   | (with_reducible exact ih0 _ _ _ _ _ _ _ _ _)
   | (with_reducible exact ih1 _ _ _ _ _ _ _ _ _ _)
   | (with_reducible exact ih2 _ _ _ _ _ _ _ _ _ _)
   | (with_reducible exact ih3 _ _)
   | (with_reducible exact ih4 _ _ _)
   | (with_reducible exact spec_ExprValid.mono _ _ _ _)
   | (with_reducible exact spec_l11Simple.mono _ _ _ _ _ _ _ _ _)
   | (with_reducible exact LeO.refl _)
   | (with_reducible exact LeO.none _)
   | (with_reducible refine LeO.ite ?_ ?_)
   | (with_reducible refine LeO.bind ?_ (fun _ => ?_))
  ·intro y0 y1
   unfold spec_l11Blocks.f
   repeat' first
   | (with_reducible exact ih0 _ _ _ _ _ _ _ _ _)
   | (with_reducible exact ih1 _ _ _ _ _ _ _ _ _ _)
   | (with_reducible exact ih2 _ _ _ _ _ _ _ _ _ _)
   | (with_reducible exact ih3 _ _)
   | (with_reducible exact ih4 _ _ _)
   | (with_reducible exact spec_ExprValid.mono _ _ _ _)
   | (with_reducible exact spec_l11Simple.mono _ _ _ _ _ _ _ _ _)
   | (with_reducible exact LeO.refl _)
   | (with_reducible exact LeO.none _)
   | (with_reducible refine LeO.ite ?_ ?_)
   | (with_reducible refine LeO.bind ?_ (fun _ => ?_))
  ·intro y0 y1 y2
   unfold spec_l11Blocks.l0
   repeat' first
   | (with_reducible exact ih0 _ _ _ _ _ _ _ _ _)
   | (with_reducible exact ih1 _ _ _ _ _ _ _ _ _ _)
   | (with_reducible exact ih2 _ _ _ _ _ _ _ _ _ _)
   | (with_reducible exact ih3 _ _)
   | (with_reducible exact ih4 _ _ _)
   | (with_reducible exact spec_ExprValid.mono _ _ _ _)
   | (with_reducible exact spec_l11Simple.mono _ _ _ _ _ _ _ _ _)
   | (with_reducible exact LeO.refl _)
   | (with_reducible exact LeO.none _)
   | (with_reducible refine LeO.ite ?_ ?_)
   | (with_reducible refine LeO.bind ?_ (fun _ => ?_))
theorem spec_l11Ok.mono : ∀ a0 a1 a2 a3 a4 a5 a6 a7 a8 k, LeO (spec_l11Ok.f k a0 a1 a2 a3 a4 a5 a6 a7 a8) (spec_l11Ok.f (k + 1) a0 a1 a2 a3 a4 a5 a6 a7 a8) := by
 intro a0 a1 a2 a3 a4 a5 a6 a7 a8 k
 obtain ⟨ih0, ih1, ih2, ih3, ih4⟩ := spec_l11Ok.mono_all k
 exact ih0 a0 a1 a2 a3 a4 a5 a6 a7 a8
theorem spec_l11Blocks.mono : ∀ a0 a1 k, LeO (spec_l11Blocks.f k a0 a1) (spec_l11Blocks.f (k + 1) a0 a1) := by
 intro a0 a1 k
 obtain ⟨ih0, ih1, ih2, ih3, ih4⟩ := spec_l11Ok.mono_all k
 exact ih3 a0 a1
abbrev spec_l11Ok.CallsAt (k : Nat) : Prop := ∀ (a0_0 : Int) (a0_1 : Int) (a0_2 : Int) (a0_3 : Int) (a0_4 : Int) (A0_5 : Option Addr) (c0_5 : Nat) (l0_5 : List (S32)) (A0_6 : Option Addr) (c0_6 : Nat) (l0_6 : List (S35)) (A0_7 : Option Addr) (c0_7 : Nat) (l0_7 : List (S35)) (a1 : Int) (r : Bool) (w : World) (hr0_5 : Kd.C k32 w A0_5 l0_5.length l0_5) (hc0_5 : l0_5.length ≤ c0_5) (hr0_6 : Kd.C k35 w A0_6 l0_6.length l0_6) (hc0_6 : l0_6.length ≤ c0_6) (hr0_7 : Kd.C k35 w A0_7 l0_7.length l0_7) (hc0_7 : l0_7.length ≤ c0_7) (h : spec_l11Ok.f k a0_0 a0_1 a0_2 a0_3 a0_4 l0_5 l0_6 l0_7 a1 = some r),
  Calls Try.prog 95 #[.agg #[.int .i64 a0_0, .int .i64 a0_1, .int .i64 a0_2, .int .i64 a0_3, .int .i64 a0_4, .slice A0_5 l0_5.length c0_5, .slice A0_6 l0_6.length c0_6, .slice A0_7 l0_7.length c0_7], .int .i64 a1] w fun e w' => e = .returned (.bool r) ∧ Below w.heap.size w w'
abbrev spec_l11Blocks.CallsAt (k : Nat) : Prop := ∀ (A0 : Option Addr) (c0 : Nat) (l0 : List (S35)) (a1 : Int) (r : Bool) (w : World) (hr0 : Kd.C k35 w A0 l0.length l0) (hc0 : l0.length ≤ c0) (h : spec_l11Blocks.f k l0 a1 = some r),
  Calls Try.prog 79 #[.slice A0 l0.length c0, .int .i64 a1] w fun e w' => e = .returned (.bool r) ∧ Below w.heap.size w w'
theorem spec_l11Ok.step (k : Nat) (ih_spec_l11Ok : ∀ m, m < k → spec_l11Ok.CallsAt m) (ih_spec_l11Blocks : ∀ m, m < k → spec_l11Blocks.CallsAt m) : spec_l11Ok.CallsAt k := by
 intro a0_0 a0_1 a0_2 a0_3 a0_4 A0_5 c0_5 l0_5 A0_6 c0_6 l0_6 A0_7 c0_7 l0_7 a1 r w hr0_5 hc0_5 hr0_6 hc0_6 hr0_7 hc0_7 h
 cases k with
 | zero => exact absurd h (by simp [spec_l11Ok.f])
 | succ k =>
 simp only [spec_l11Ok.f] at h
 have hu35 := Try.underlying35
 have hu32 := Try.underlying32
 have HR0_5 := am hr0_5
 have HC0_5 := am hc0_5
 clear hr0_5 hc0_5
 have HR0_6 := am hr0_6
 have HC0_6 := am hc0_6
 clear hr0_6 hc0_6
 have HR0_7 := am hr0_7
 have HC0_7 := am hc0_7
 clear hr0_7 hc0_7
 have HB := am (Below.refl w.heap.size w)
 have H : (if a0_0 = 2 then (spec_l11Ok.j0 k a1 false a0_0 a0_1 a0_2 a0_3 a0_4 l0_5 l0_6 l0_7) else (spec_l11Ok.j0 k a1 (a0_0 != 3) a0_0 a0_1 a0_2 a0_3 a0_4 l0_5 l0_6 l0_7)) = some r := h
 clear h
 have HC3 := am H
 clear H
 go_enter Try.func95, Try.ntmps95
 go_upto_region 1 with (first | ((with_reducible refine gate_dst (N := 2) rfl ?_); (try (refine gate_guard (by rfl) ?_; dsimp only)); refine box_event rfl (N := 2) rfl (cs := #[.int .i64 a0_0, .int .i64 a0_1, .int .i64 a0_2, .int .i64 a0_3, .int .i64 a0_4, .slice A0_5 l0_5.length c0_5, .slice A0_6 l0_6.length c0_6, .slice A0_7 l0_7.length c0_7]) (t := 35) rn_ ?_; intro gb616 hg w4 hbox hb; have BK616 := am (hbox); have GW616 := am ((by rw [hg]; exact (below_size ab2_) : w.heap.size ≤ gb616)); have GE616 := am ((by rw [hg]; exact (below_size ab2_) : w.heap.size ≤ gb616)); replace HB := am (below_step ab2_ hb); clear hb hbox hg))
 (try simp only [Act.put, List.setIfInBounds_toArray, List.set_cons_zero, List.set_cons_succ])
 go_cut [12] (fun v12 wc => ∃ (kq : Nat) (x12_2 : Bool), v12 = .bool x12_2 ∧ Aside0 (spec_l11Ok.j0 kq a1 x12_2 a0_0 a0_1 a0_2 a0_3 a0_4 l0_5 l0_6 l0_7 = some r) ∧ Aside0 (kq ≤ k) ∧ Aside0 (wc.heap[gb616]? = some (.cells #[.int .i64 a0_0, .int .i64 a0_1, .int .i64 a0_2, .int .i64 a0_3, .int .i64 a0_4, (.slice A0_5 l0_5.length c0_5), (.slice A0_6 l0_6.length c0_6), (.slice A0_7 l0_7.length c0_7)] 35 (0, 0))) ∧ Aside0 (Below w.heap.size w wc))
 case first =>
  have H := HC3.out
  clear HC3
  by_cases c5 : a0_0 = 2
  ·rw [if_pos c5] at H
   have c5b0 : (a0_0 == 2) = true := beq_iff_eq.mpr c5
   have c5b1 : (a0_0 != 2) = false := bne_eq_false_iff_eq.mpr c5
   clear c5
   (first | rw [c5b0] | (simp only [i64_w, i32_w]; rw [c5b0]) | skip)
   have H' := am H
   clear H
   obtain ⟨hcz6_0, hcz6_1, hcz6_2, hcz6_3, hcz6_4, hcz6_5, hcz6_6, hcz6_7, hfz6_0, hfz6_1, hfz6_2, hfz6_3, hfz6_4, hfz6_5, hfz6_6, hfz6_7⟩ := bcf8_ BK616.out
   go_wp2
   go_meet
   case rel => exact ⟨_, (false), sd_, H', ⟨by first | omega | exact Nat.le_refl _⟩, ⟨by (with_reducible repeat (first | refine blk_drewN ?_ _ | refine blk_drew ?_ | refine blk_alloc ?_ _)); exact BK616.out⟩, ⟨ab15_⟩⟩
  rw [if_neg c5] at H
  have c5b0 : (a0_0 == 2) = false := beq_eq_false_iff_ne.mpr c5
  have c5b1 : (a0_0 != 2) = true := bne_iff_ne.mpr c5
  (first | rw [c5b0] | (simp only [i64_w, i32_w]; rw [c5b0]) | skip)
  have H' := am H
  clear H
  obtain ⟨hcz7_0, hcz7_1, hcz7_2, hcz7_3, hcz7_4, hcz7_5, hcz7_6, hcz7_7, hfz7_0, hfz7_1, hfz7_2, hfz7_3, hfz7_4, hfz7_5, hfz7_6, hfz7_7⟩ := bcf8_ BK616.out
  go_wp2
  go_meet
  case rel => exact ⟨_, ((a0_0 != 3)), sd_, H', ⟨by first | omega | exact Nat.le_refl _⟩, ⟨by (with_reducible repeat (first | refine blk_drewN ?_ _ | refine blk_drew ?_ | refine blk_alloc ?_ _)); exact BK616.out⟩, ⟨ab15_⟩⟩
 case rest =>
  clear HC3
  obtain ⟨kq, x12_2, rfl, HA, HJ2, BK616, HB⟩ := hcut
  cases kq with
  | zero => exact absurd HA.out (by simp [spec_l11Ok.j0])
  | succ kj2 =>
   have H := HA.out
   clear HA
   simp only [spec_l11Ok.j0] at H
   by_cases c8 : x12_2 = true
   ·subst c8
    rw [if_pos rfl] at H
    obtain ⟨t617, A90, H⟩ := bsm H
    (try dsimp only at H)
    have A9 := am A90
    clear A90
    obtain rfl := Option.some.inj H
    obtain ⟨hcz10_0, hcz10_1, hcz10_2, hcz10_3, hcz10_4, hcz10_5, hcz10_6, hcz10_7, hfz10_0, hfz10_1, hfz10_2, hfz10_3, hfz10_4, hfz10_5, hfz10_6, hfz10_7⟩ := bcf8_ BK616.out
    go_wp2_with (first | ((with_reducible refine gate_callee (f := 108) rfl ?_); refine goesL_ (some 14) rfl rfl Try.func108 (by kernel_rfl) rfl #[.agg #[.int .i64 a0_0, .int .i64 a0_1, .int .i64 a0_2, .int .i64 a0_3, .int .i64 a0_4, .slice A0_5 l0_5.length c0_5, .slice A0_6 l0_6.length c0_6, .slice A0_7 l0_7.length c0_7]] rfl ab1_ ?_; (with_reducible refine (spec_l11Simple.calls kj2 a0_0 a0_1 a0_2 a0_3 a0_4 _ _ l0_5 _ _ l0_6 _ _ l0_7 t617 _ (aC_ (Kd.C_below HR0_5.out HB.out)) HC0_5.out (aC_ (Kd.C_below HR0_6.out HB.out)) HC0_6.out (aC_ (Kd.C_below HR0_7.out HB.out)) HC0_7.out A9.out).mono ?_); rintro e w11 ⟨rfl, hb⟩; refine ⟨_, rfl, ?_⟩; replace BK616 := am (bbl_ BK616.out hb); replace HB := am (below_step ab15_ hb); (try clear hb); (try clear hb2); (try clear hk); (try clear hi)))
    go_ret
    exact ⟨rr_, ab15_⟩
   replace c8 := Bool.eq_false_iff.mpr c8
   subst c8
   rw [if_neg (show ¬ (false = true) by decide)] at H
   have HC12 := am H
   clear H
   go_upto_region 3 with (fail)
   go_cut [27] (fun v27 wc => ∃ (kq : Nat) (x27_11 : Bool), v27 = .bool x27_11 ∧ Aside0 (spec_l11Ok.j1 kq a1 x27_11 a0_0 a0_1 a0_2 a0_3 a0_4 l0_5 l0_6 l0_7 = some r) ∧ Aside0 (kq ≤ kj2) ∧ Aside0 (wc.heap[gb616]? = some (.cells #[.int .i64 a0_0, .int .i64 a0_1, .int .i64 a0_2, .int .i64 a0_3, .int .i64 a0_4, (.slice A0_5 l0_5.length c0_5), (.slice A0_6 l0_6.length c0_6), (.slice A0_7 l0_7.length c0_7)] 35 (0, 0))) ∧ Aside0 (Below w.heap.size w wc))
   case first =>
    have H := HC12.out
    clear HC12
    by_cases c13 : a1 < 1
    ·rw [if_pos c13] at H
     have c13b0 : decide (a1 < 1) = true := decide_eq_true c13
     clear c13
     (first | rw [c13b0] | (simp only [i64_w, i32_w]; rw [c13b0]) | skip)
     have H' := am H
     clear H
     go_wp2
     go_meet
     case rel => exact ⟨_, (true), sd_, H', ⟨by have := HJ2.out; first | omega | exact Nat.le_refl _⟩, ⟨by (with_reducible repeat (first | refine blk_drewN ?_ _ | refine blk_drew ?_ | refine blk_alloc ?_ _)); exact BK616.out⟩, ⟨ab15_⟩⟩
    rw [if_neg c13] at H
    have c13b0 : decide (a1 < 1) = false := decide_eq_false c13
    clear c13
    (first | rw [c13b0] | (simp only [i64_w, i32_w]; rw [c13b0]) | skip)
    by_cases c14 : a0_0 = 3
    ·rw [if_pos c14] at H
     have c14b0 : (a0_0 == 3) = true := beq_iff_eq.mpr c14
     have c14b1 : (a0_0 != 3) = false := bne_eq_false_iff_eq.mpr c14
     clear c14
     have H' := am H
     clear H
     obtain ⟨hcz15_0, hcz15_1, hcz15_2, hcz15_3, hcz15_4, hcz15_5, hcz15_6, hcz15_7, hfz15_0, hfz15_1, hfz15_2, hfz15_3, hfz15_4, hfz15_5, hfz15_6, hfz15_7⟩ := bcf8_ BK616.out
     go_wp2
     go_meet
     case rel => exact ⟨_, (decide ((l0_7.length : Int) > 0)), sd_, H', ⟨by have := HJ2.out; first | omega | exact Nat.le_refl _⟩, ⟨by (with_reducible repeat (first | refine blk_drewN ?_ _ | refine blk_drew ?_ | refine blk_alloc ?_ _)); exact BK616.out⟩, ⟨ab15_⟩⟩
    rw [if_neg c14] at H
    have c14b0 : (a0_0 == 3) = false := beq_eq_false_iff_ne.mpr c14
    have c14b1 : (a0_0 != 3) = true := bne_iff_ne.mpr c14
    have H' := am H
    clear H
    obtain ⟨hcz16_0, hcz16_1, hcz16_2, hcz16_3, hcz16_4, hcz16_5, hcz16_6, hcz16_7, hfz16_0, hfz16_1, hfz16_2, hfz16_3, hfz16_4, hfz16_5, hfz16_6, hfz16_7⟩ := bcf8_ BK616.out
    go_wp2
    go_meet
    case rel => exact ⟨_, (false), sd_, H', ⟨by have := HJ2.out; first | omega | exact Nat.le_refl _⟩, ⟨by (with_reducible repeat (first | refine blk_drewN ?_ _ | refine blk_drew ?_ | refine blk_alloc ?_ _)); exact BK616.out⟩, ⟨ab15_⟩⟩
   case rest =>
    clear HC12
    try clear c8
    obtain ⟨kq, x27_11, rfl, HA, HJ11, BK616, HB⟩ := hcut
    cases kq with
    | zero => exact absurd HA.out (by simp [spec_l11Ok.j1])
    | succ kj11 =>
     have H := HA.out
     clear HA
     simp only [spec_l11Ok.j1] at H
     by_cases c17 : x27_11 = true
     ·subst c17
      rw [if_pos rfl] at H
      obtain rfl := Option.some.inj H
      go_wp2
      go_ret
      exact ⟨rr_, ab15_⟩
     replace c17 := Bool.eq_false_iff.mpr c17
     subst c17
     rw [if_neg (show ¬ (false = true) by decide)] at H
     obtain ⟨t618, A180, H⟩ := bsm H
     (try dsimp only at H)
     have A18 := am A180
     clear A180
     by_cases c19 : t618 = true
     ·subst c19
      rw [if_pos rfl] at H
      obtain ⟨t619, A200, H⟩ := bsm H
      (try dsimp only at H)
      have A20 := am A200
      clear A200
      by_cases c21 : t619 = true
      ·subst c21
       rw [if_pos rfl] at H
       obtain ⟨t620, A220, H⟩ := bsm H
       (try dsimp only at H)
       have A22 := am A220
       clear A220
       by_cases c23 : t620 = true
       ·subst c23
        rw [if_pos rfl] at H
        obtain ⟨t621, A240, H⟩ := bsm H
        (try dsimp only at H)
        have A24 := am A240
        clear A240
        by_cases c25 : t621 = true
        ·subst c25
         rw [if_pos rfl] at H
         obtain ⟨t622, A260, H⟩ := bsm H
         (try dsimp only at H)
         have A26 := am A260
         clear A260
         obtain rfl := Option.some.inj H
         obtain ⟨hcz27_0, hcz27_1, hcz27_2, hcz27_3, hcz27_4, hcz27_5, hcz27_6, hcz27_7, hfz27_0, hfz27_1, hfz27_2, hfz27_3, hfz27_4, hfz27_5, hfz27_6, hfz27_7⟩ := bcf8_ BK616.out
         go_wp2_with (first | ((with_reducible refine gate_callee (f := 109) rfl ?_); refine goesL_ (some 29) rfl rfl Try.func109 (by kernel_rfl) rfl #[.agg #[.int .i64 a0_0, .int .i64 a0_1, .int .i64 a0_2, .int .i64 a0_3, .int .i64 a0_4, .slice A0_5 l0_5.length c0_5, .slice A0_6 l0_6.length c0_6, .slice A0_7 l0_7.length c0_7], .bool false] rfl ab1_ ?_; (with_reducible refine (spec_l11Var.calls a0_0 a0_1 a0_2 a0_3 a0_4 _ _ l0_5 _ _ l0_6 _ _ l0_7 false true _ (aC_ (Kd.C_below HR0_5.out HB.out)) HC0_5.out (aC_ (Kd.C_below HR0_6.out HB.out)) HC0_6.out (aC_ (Kd.C_below HR0_7.out HB.out)) HC0_7.out A18.out).mono ?_); rintro e w28 ⟨rfl, hb⟩; refine ⟨_, rfl, ?_⟩; replace BK616 := am (bbl_ BK616.out hb); replace HB := am (below_step ab15_ hb); (try clear hb); (try clear hb2); (try clear hk); (try clear hi); obtain ⟨hcz29_0, hcz29_1, hcz29_2, hcz29_3, hcz29_4, hcz29_5, hcz29_6, hcz29_7, hfz29_0, hfz29_1, hfz29_2, hfz29_3, hfz29_4, hfz29_5, hfz29_6, hfz29_7⟩ := bcf8_ BK616.out) | (go_at_call 110; (with_reducible refine (spec_l11Box.calls a0_0 a0_1 a0_2 a0_3 a0_4 _ _ l0_5 _ _ l0_6 _ _ l0_7 false true _ (aC_ (Kd.C_below HR0_5.out HB.out)) HC0_5.out (aC_ (Kd.C_below HR0_6.out HB.out)) HC0_6.out (aC_ (Kd.C_below HR0_7.out HB.out)) HC0_7.out A20.out).mono ?_); rintro e w30 ⟨rfl, hb⟩; replace BK616 := am (bbl_ BK616.out hb); replace HB := am (below_step ab15_ hb); (try clear hb); (try clear hb2); (try clear hk); (try clear hi); obtain ⟨hcz31_0, hcz31_1, hcz31_2, hcz31_3, hcz31_4, hcz31_5, hcz31_6, hcz31_7, hfz31_0, hfz31_1, hfz31_2, hfz31_3, hfz31_4, hfz31_5, hfz31_6, hfz31_7⟩ := bcf8_ BK616.out) | (go_at_call 111; (with_reducible refine (spec_ExprValid.calls kj11 a0_3 a0_4 _ _ l0_5 true _ (aC_ (Kd.C_below HR0_5.out HB.out)) HC0_5.out A22.out).mono ?_); rintro e w32 ⟨rfl, hb⟩; replace BK616 := am (bbl_ BK616.out hb); replace HB := am (below_step ab15_ hb); (try clear hb); (try clear hb2); (try clear hk); (try clear hi); obtain ⟨hcz33_0, hcz33_1, hcz33_2, hcz33_3, hcz33_4, hcz33_5, hcz33_6, hcz33_7, hfz33_0, hfz33_1, hfz33_2, hfz33_3, hfz33_4, hfz33_5, hfz33_6, hfz33_7⟩ := bcf8_ BK616.out) | (go_at_call 79; (with_reducible refine (ih_spec_l11Blocks kj11 (by have := HJ2.out; have := HJ11.out; omega) _ _ l0_6 (wrap64 (a1 - 1)) true _ (aC_ (Kd.C_below HR0_6.out HB.out)) HC0_6.out A24.out).mono ?_); rintro e w34 ⟨rfl, hb⟩; replace BK616 := am (bbl_ BK616.out hb); replace HB := am (below_step ab15_ hb); (try clear hb); (try clear hb2); (try clear hk); (try clear hi); obtain ⟨hcz35_0, hcz35_1, hcz35_2, hcz35_3, hcz35_4, hcz35_5, hcz35_6, hcz35_7, hfz35_0, hfz35_1, hfz35_2, hfz35_3, hfz35_4, hfz35_5, hfz35_6, hfz35_7⟩ := bcf8_ BK616.out) | (go_at_call 79; (with_reducible refine (ih_spec_l11Blocks kj11 (by have := HJ2.out; have := HJ11.out; omega) _ _ l0_7 (wrap64 (a1 - 1)) t622 _ (aC_ (Kd.C_below HR0_7.out HB.out)) HC0_7.out A26.out).mono ?_); rintro e w36 ⟨rfl, hb⟩; replace BK616 := am (bbl_ BK616.out hb); replace HB := am (below_step ab15_ hb); (try clear hb); (try clear hb2); (try clear hk); (try clear hi)))
         go_ret
         exact ⟨rr_, ab15_⟩
        replace c25 := Bool.eq_false_iff.mpr c25
        subst c25
        rw [if_neg (show ¬ (false = true) by decide)] at H
        obtain rfl := Option.some.inj H
        obtain ⟨hcz37_0, hcz37_1, hcz37_2, hcz37_3, hcz37_4, hcz37_5, hcz37_6, hcz37_7, hfz37_0, hfz37_1, hfz37_2, hfz37_3, hfz37_4, hfz37_5, hfz37_6, hfz37_7⟩ := bcf8_ BK616.out
        go_wp2_with (first | ((with_reducible refine gate_callee (f := 109) rfl ?_); refine goesL_ (some 29) rfl rfl Try.func109 (by kernel_rfl) rfl #[.agg #[.int .i64 a0_0, .int .i64 a0_1, .int .i64 a0_2, .int .i64 a0_3, .int .i64 a0_4, .slice A0_5 l0_5.length c0_5, .slice A0_6 l0_6.length c0_6, .slice A0_7 l0_7.length c0_7], .bool false] rfl ab1_ ?_; (with_reducible refine (spec_l11Var.calls a0_0 a0_1 a0_2 a0_3 a0_4 _ _ l0_5 _ _ l0_6 _ _ l0_7 false true _ (aC_ (Kd.C_below HR0_5.out HB.out)) HC0_5.out (aC_ (Kd.C_below HR0_6.out HB.out)) HC0_6.out (aC_ (Kd.C_below HR0_7.out HB.out)) HC0_7.out A18.out).mono ?_); rintro e w38 ⟨rfl, hb⟩; refine ⟨_, rfl, ?_⟩; replace BK616 := am (bbl_ BK616.out hb); replace HB := am (below_step ab15_ hb); (try clear hb); (try clear hb2); (try clear hk); (try clear hi); obtain ⟨hcz39_0, hcz39_1, hcz39_2, hcz39_3, hcz39_4, hcz39_5, hcz39_6, hcz39_7, hfz39_0, hfz39_1, hfz39_2, hfz39_3, hfz39_4, hfz39_5, hfz39_6, hfz39_7⟩ := bcf8_ BK616.out) | (go_at_call 110; (with_reducible refine (spec_l11Box.calls a0_0 a0_1 a0_2 a0_3 a0_4 _ _ l0_5 _ _ l0_6 _ _ l0_7 false true _ (aC_ (Kd.C_below HR0_5.out HB.out)) HC0_5.out (aC_ (Kd.C_below HR0_6.out HB.out)) HC0_6.out (aC_ (Kd.C_below HR0_7.out HB.out)) HC0_7.out A20.out).mono ?_); rintro e w40 ⟨rfl, hb⟩; replace BK616 := am (bbl_ BK616.out hb); replace HB := am (below_step ab15_ hb); (try clear hb); (try clear hb2); (try clear hk); (try clear hi); obtain ⟨hcz41_0, hcz41_1, hcz41_2, hcz41_3, hcz41_4, hcz41_5, hcz41_6, hcz41_7, hfz41_0, hfz41_1, hfz41_2, hfz41_3, hfz41_4, hfz41_5, hfz41_6, hfz41_7⟩ := bcf8_ BK616.out) | (go_at_call 111; (with_reducible refine (spec_ExprValid.calls kj11 a0_3 a0_4 _ _ l0_5 true _ (aC_ (Kd.C_below HR0_5.out HB.out)) HC0_5.out A22.out).mono ?_); rintro e w42 ⟨rfl, hb⟩; replace BK616 := am (bbl_ BK616.out hb); replace HB := am (below_step ab15_ hb); (try clear hb); (try clear hb2); (try clear hk); (try clear hi); obtain ⟨hcz43_0, hcz43_1, hcz43_2, hcz43_3, hcz43_4, hcz43_5, hcz43_6, hcz43_7, hfz43_0, hfz43_1, hfz43_2, hfz43_3, hfz43_4, hfz43_5, hfz43_6, hfz43_7⟩ := bcf8_ BK616.out) | (go_at_call 79; (with_reducible refine (ih_spec_l11Blocks kj11 (by have := HJ2.out; have := HJ11.out; omega) _ _ l0_6 (wrap64 (a1 - 1)) false _ (aC_ (Kd.C_below HR0_6.out HB.out)) HC0_6.out A24.out).mono ?_); rintro e w44 ⟨rfl, hb⟩; replace BK616 := am (bbl_ BK616.out hb); replace HB := am (below_step ab15_ hb); (try clear hb); (try clear hb2); (try clear hk); (try clear hi)))
        go_ret
        exact ⟨rr_, ab15_⟩
       replace c23 := Bool.eq_false_iff.mpr c23
       subst c23
       rw [if_neg (show ¬ (false = true) by decide)] at H
       obtain rfl := Option.some.inj H
       obtain ⟨hcz45_0, hcz45_1, hcz45_2, hcz45_3, hcz45_4, hcz45_5, hcz45_6, hcz45_7, hfz45_0, hfz45_1, hfz45_2, hfz45_3, hfz45_4, hfz45_5, hfz45_6, hfz45_7⟩ := bcf8_ BK616.out
       go_wp2_with (first | ((with_reducible refine gate_callee (f := 109) rfl ?_); refine goesL_ (some 29) rfl rfl Try.func109 (by kernel_rfl) rfl #[.agg #[.int .i64 a0_0, .int .i64 a0_1, .int .i64 a0_2, .int .i64 a0_3, .int .i64 a0_4, .slice A0_5 l0_5.length c0_5, .slice A0_6 l0_6.length c0_6, .slice A0_7 l0_7.length c0_7], .bool false] rfl ab1_ ?_; (with_reducible refine (spec_l11Var.calls a0_0 a0_1 a0_2 a0_3 a0_4 _ _ l0_5 _ _ l0_6 _ _ l0_7 false true _ (aC_ (Kd.C_below HR0_5.out HB.out)) HC0_5.out (aC_ (Kd.C_below HR0_6.out HB.out)) HC0_6.out (aC_ (Kd.C_below HR0_7.out HB.out)) HC0_7.out A18.out).mono ?_); rintro e w46 ⟨rfl, hb⟩; refine ⟨_, rfl, ?_⟩; replace BK616 := am (bbl_ BK616.out hb); replace HB := am (below_step ab15_ hb); (try clear hb); (try clear hb2); (try clear hk); (try clear hi); obtain ⟨hcz47_0, hcz47_1, hcz47_2, hcz47_3, hcz47_4, hcz47_5, hcz47_6, hcz47_7, hfz47_0, hfz47_1, hfz47_2, hfz47_3, hfz47_4, hfz47_5, hfz47_6, hfz47_7⟩ := bcf8_ BK616.out) | (go_at_call 110; (with_reducible refine (spec_l11Box.calls a0_0 a0_1 a0_2 a0_3 a0_4 _ _ l0_5 _ _ l0_6 _ _ l0_7 false true _ (aC_ (Kd.C_below HR0_5.out HB.out)) HC0_5.out (aC_ (Kd.C_below HR0_6.out HB.out)) HC0_6.out (aC_ (Kd.C_below HR0_7.out HB.out)) HC0_7.out A20.out).mono ?_); rintro e w48 ⟨rfl, hb⟩; replace BK616 := am (bbl_ BK616.out hb); replace HB := am (below_step ab15_ hb); (try clear hb); (try clear hb2); (try clear hk); (try clear hi); obtain ⟨hcz49_0, hcz49_1, hcz49_2, hcz49_3, hcz49_4, hcz49_5, hcz49_6, hcz49_7, hfz49_0, hfz49_1, hfz49_2, hfz49_3, hfz49_4, hfz49_5, hfz49_6, hfz49_7⟩ := bcf8_ BK616.out) | (go_at_call 111; (with_reducible refine (spec_ExprValid.calls kj11 a0_3 a0_4 _ _ l0_5 false _ (aC_ (Kd.C_below HR0_5.out HB.out)) HC0_5.out A22.out).mono ?_); rintro e w50 ⟨rfl, hb⟩; replace BK616 := am (bbl_ BK616.out hb); replace HB := am (below_step ab15_ hb); (try clear hb); (try clear hb2); (try clear hk); (try clear hi)))
       go_ret
       exact ⟨rr_, ab15_⟩
      replace c21 := Bool.eq_false_iff.mpr c21
      subst c21
      rw [if_neg (show ¬ (false = true) by decide)] at H
      obtain rfl := Option.some.inj H
      obtain ⟨hcz51_0, hcz51_1, hcz51_2, hcz51_3, hcz51_4, hcz51_5, hcz51_6, hcz51_7, hfz51_0, hfz51_1, hfz51_2, hfz51_3, hfz51_4, hfz51_5, hfz51_6, hfz51_7⟩ := bcf8_ BK616.out
      go_wp2_with (first | ((with_reducible refine gate_callee (f := 109) rfl ?_); refine goesL_ (some 29) rfl rfl Try.func109 (by kernel_rfl) rfl #[.agg #[.int .i64 a0_0, .int .i64 a0_1, .int .i64 a0_2, .int .i64 a0_3, .int .i64 a0_4, .slice A0_5 l0_5.length c0_5, .slice A0_6 l0_6.length c0_6, .slice A0_7 l0_7.length c0_7], .bool false] rfl ab1_ ?_; (with_reducible refine (spec_l11Var.calls a0_0 a0_1 a0_2 a0_3 a0_4 _ _ l0_5 _ _ l0_6 _ _ l0_7 false true _ (aC_ (Kd.C_below HR0_5.out HB.out)) HC0_5.out (aC_ (Kd.C_below HR0_6.out HB.out)) HC0_6.out (aC_ (Kd.C_below HR0_7.out HB.out)) HC0_7.out A18.out).mono ?_); rintro e w52 ⟨rfl, hb⟩; refine ⟨_, rfl, ?_⟩; replace BK616 := am (bbl_ BK616.out hb); replace HB := am (below_step ab15_ hb); (try clear hb); (try clear hb2); (try clear hk); (try clear hi); obtain ⟨hcz53_0, hcz53_1, hcz53_2, hcz53_3, hcz53_4, hcz53_5, hcz53_6, hcz53_7, hfz53_0, hfz53_1, hfz53_2, hfz53_3, hfz53_4, hfz53_5, hfz53_6, hfz53_7⟩ := bcf8_ BK616.out) | (go_at_call 110; (with_reducible refine (spec_l11Box.calls a0_0 a0_1 a0_2 a0_3 a0_4 _ _ l0_5 _ _ l0_6 _ _ l0_7 false false _ (aC_ (Kd.C_below HR0_5.out HB.out)) HC0_5.out (aC_ (Kd.C_below HR0_6.out HB.out)) HC0_6.out (aC_ (Kd.C_below HR0_7.out HB.out)) HC0_7.out A20.out).mono ?_); rintro e w54 ⟨rfl, hb⟩; replace BK616 := am (bbl_ BK616.out hb); replace HB := am (below_step ab15_ hb); (try clear hb); (try clear hb2); (try clear hk); (try clear hi)))
      go_ret
      exact ⟨rr_, ab15_⟩
     replace c19 := Bool.eq_false_iff.mpr c19
     subst c19
     rw [if_neg (show ¬ (false = true) by decide)] at H
     obtain rfl := Option.some.inj H
     obtain ⟨hcz55_0, hcz55_1, hcz55_2, hcz55_3, hcz55_4, hcz55_5, hcz55_6, hcz55_7, hfz55_0, hfz55_1, hfz55_2, hfz55_3, hfz55_4, hfz55_5, hfz55_6, hfz55_7⟩ := bcf8_ BK616.out
     go_wp2_with (first | ((with_reducible refine gate_callee (f := 109) rfl ?_); refine goesL_ (some 29) rfl rfl Try.func109 (by kernel_rfl) rfl #[.agg #[.int .i64 a0_0, .int .i64 a0_1, .int .i64 a0_2, .int .i64 a0_3, .int .i64 a0_4, .slice A0_5 l0_5.length c0_5, .slice A0_6 l0_6.length c0_6, .slice A0_7 l0_7.length c0_7], .bool false] rfl ab1_ ?_; (with_reducible refine (spec_l11Var.calls a0_0 a0_1 a0_2 a0_3 a0_4 _ _ l0_5 _ _ l0_6 _ _ l0_7 false false _ (aC_ (Kd.C_below HR0_5.out HB.out)) HC0_5.out (aC_ (Kd.C_below HR0_6.out HB.out)) HC0_6.out (aC_ (Kd.C_below HR0_7.out HB.out)) HC0_7.out A18.out).mono ?_); rintro e w56 ⟨rfl, hb⟩; refine ⟨_, rfl, ?_⟩; replace BK616 := am (bbl_ BK616.out hb); replace HB := am (below_step ab15_ hb); (try clear hb); (try clear hb2); (try clear hk); (try clear hi)))
     go_ret
     exact ⟨rr_, ab15_⟩
theorem spec_l11Blocks.step (k : Nat) (ih_spec_l11Ok : ∀ m, m < k → spec_l11Ok.CallsAt m) (ih_spec_l11Blocks : ∀ m, m < k → spec_l11Blocks.CallsAt m) : spec_l11Blocks.CallsAt k := by
 intro A0 c0 l0 a1 r w hr0 hc0 h
 cases k with
 | zero => exact absurd h (by simp [spec_l11Blocks.f])
 | succ k =>
 simp only [spec_l11Blocks.f] at h
 have hu35 := Try.underlying35
 have HR0 := am hr0
 have HC0 := am hc0
 clear hr0 hc0
 have HB := am (Below.refl w.heap.size w)
 have H : (spec_l11Blocks.l0 k l0 a1 0) = some r := h
 clear h
 have H' := am H
 clear H
 go_enter Try.func79, Try.ntmps79
 go_wp2
 go_loopg [5] k (fun kq v5 w' => ∃ (x5_1 : Int), v5 = .int .i64 x5_1 ∧ Aside0 (spec_l11Blocks.l0 kq l0 a1 x5_1 = some r) ∧ Aside0 (kq ≤ k) ∧ Aside0 (Below w.heap.size w w'))
 case atStart => exact ⟨(0), sd_, H', ⟨Nat.le_refl _⟩, ⟨ab2_⟩⟩
 case round =>
  clear H'
  obtain ⟨x5_1, rfl, HA, HK1, HB⟩ := hrel
  cases gk with
  | zero => exact absurd HA.out (by simp [spec_l11Blocks.l0])
  | succ k1 =>
   have H := HA.out
   clear HA
   simp only [spec_l11Blocks.l0] at H
   by_cases c3 : x5_1 < (l0.length : Int)
   ·rw [if_pos c3] at H
    have c3b0 : decide (x5_1 < (l0.length : Int)) = true := decide_eq_true c3
    clear c3
    by_cases c4 : 0 ≤ x5_1
    ·rw [if_pos c4] at H
     have c4b0 : decide (0 ≤ x5_1) = true := decide_eq_true c4
     clear c4
     obtain ⟨t624, A50, H⟩ := bsm H
     (try dsimp only at H)
     have A5 := am A50
     clear A50
     by_cases c6 : t624 = true
     ·subst c6
      rw [if_pos rfl] at H
      have H' := am H
      clear H
      have p623 : 0 ≤ (x5_1 : Int) := of_decide_eq_true asm_
      have q623 : x5_1 < (l0.length : Int) := of_decide_eq_true asm_
      obtain ⟨ad623, A623_5, c623_5, A623_6, c623_6, A623_7, c623_7, e623, hx623_0, hx623_1, hx623_2, hx623_3, hx623_4, hx623_5, hx623_6, hx623_7, hl623_5, hi623_5, hl623_6, hi623_6, hl623_7, hi623_7⟩ := at_T35 HR0.out x5_1 p623 q623
      cases e623
      replace hx623_0 := (HB.out.cell (World.block_lt_of_cell? w _ hx623_0)).trans hx623_0
      replace hx623_1 := (HB.out.cell (World.block_lt_of_cell? w _ hx623_1)).trans hx623_1
      replace hx623_2 := (HB.out.cell (World.block_lt_of_cell? w _ hx623_2)).trans hx623_2
      replace hx623_3 := (HB.out.cell (World.block_lt_of_cell? w _ hx623_3)).trans hx623_3
      replace hx623_4 := (HB.out.cell (World.block_lt_of_cell? w _ hx623_4)).trans hx623_4
      replace hx623_5 := (HB.out.cell (World.block_lt_of_cell? w _ hx623_5)).trans hx623_5
      replace hx623_6 := (HB.out.cell (World.block_lt_of_cell? w _ hx623_6)).trans hx623_6
      replace hx623_7 := (HB.out.cell (World.block_lt_of_cell? w _ hx623_7)).trans hx623_7
      have HR623_5 := am hi623_5
      have HC623_5 := am hl623_5
      clear hi623_5 hl623_5
      have HR623_6 := am hi623_6
      have HC623_6 := am hl623_6
      clear hi623_6 hl623_6
      have HR623_7 := am hi623_7
      have HC623_7 := am hl623_7
      clear hi623_7 hl623_7
      replace p623 := eq_true p623
      replace q623 := eq_true q623
      go_wp2_with (first | ((with_reducible refine gate_callee (f := 95) rfl ?_); refine goesL_ (some 17) rfl rfl Try.func95 (by kernel_rfl) rfl #[.agg #[.int .i64 ((rd_T35 l0 x5_1).f0), .int .i64 ((rd_T35 l0 x5_1).f1), .int .i64 ((rd_T35 l0 x5_1).f2), .int .i64 ((rd_T35 l0 x5_1).f3.f0), .int .i64 ((rd_T35 l0 x5_1).f3.f1), .slice A623_5 ((rd_T35 l0 x5_1).f3.f2).length c623_5, .slice A623_6 ((rd_T35 l0 x5_1).f4).length c623_6, .slice A623_7 ((rd_T35 l0 x5_1).f5).length c623_7], .int .i64 a1] rfl ab1_ ?_; (with_reducible refine (ih_spec_l11Ok k1 (by have := HK1.out; omega) ((rd_T35 l0 x5_1).f0) ((rd_T35 l0 x5_1).f1) ((rd_T35 l0 x5_1).f2) ((rd_T35 l0 x5_1).f3.f0) ((rd_T35 l0 x5_1).f3.f1) _ _ ((rd_T35 l0 x5_1).f3.f2) _ _ ((rd_T35 l0 x5_1).f4) _ _ ((rd_T35 l0 x5_1).f5) a1 true _ (aC_ (Kd.C_below HR623_5.out HB.out)) HC623_5.out (aC_ (Kd.C_below HR623_6.out HB.out)) HC623_6.out (aC_ (Kd.C_below HR623_7.out HB.out)) HC623_7.out A5.out).mono ?_); rintro e w7 ⟨rfl, hb⟩; refine ⟨_, rfl, ?_⟩; replace HB := am (below_step ab2_ hb); (try clear hb); (try clear hb2); (try clear hk); (try clear hi)))
      go_roundg k1
      case measure => have := HK1.out; omega
      case rel => exact ⟨(wrap64 (x5_1 + 1)), sd_, H', ⟨by have := HK1.out; omega⟩, ⟨ab2_⟩⟩
     replace c6 := Bool.eq_false_iff.mpr c6
     subst c6
     rw [if_neg (show ¬ (false = true) by decide)] at H
     obtain rfl := Option.some.inj H
     have p623 : 0 ≤ (x5_1 : Int) := of_decide_eq_true asm_
     have q623 : x5_1 < (l0.length : Int) := of_decide_eq_true asm_
     obtain ⟨ad623, A623_5, c623_5, A623_6, c623_6, A623_7, c623_7, e623, hx623_0, hx623_1, hx623_2, hx623_3, hx623_4, hx623_5, hx623_6, hx623_7, hl623_5, hi623_5, hl623_6, hi623_6, hl623_7, hi623_7⟩ := at_T35 HR0.out x5_1 p623 q623
     cases e623
     replace hx623_0 := (HB.out.cell (World.block_lt_of_cell? w _ hx623_0)).trans hx623_0
     replace hx623_1 := (HB.out.cell (World.block_lt_of_cell? w _ hx623_1)).trans hx623_1
     replace hx623_2 := (HB.out.cell (World.block_lt_of_cell? w _ hx623_2)).trans hx623_2
     replace hx623_3 := (HB.out.cell (World.block_lt_of_cell? w _ hx623_3)).trans hx623_3
     replace hx623_4 := (HB.out.cell (World.block_lt_of_cell? w _ hx623_4)).trans hx623_4
     replace hx623_5 := (HB.out.cell (World.block_lt_of_cell? w _ hx623_5)).trans hx623_5
     replace hx623_6 := (HB.out.cell (World.block_lt_of_cell? w _ hx623_6)).trans hx623_6
     replace hx623_7 := (HB.out.cell (World.block_lt_of_cell? w _ hx623_7)).trans hx623_7
     have HR623_5 := am hi623_5
     have HC623_5 := am hl623_5
     clear hi623_5 hl623_5
     have HR623_6 := am hi623_6
     have HC623_6 := am hl623_6
     clear hi623_6 hl623_6
     have HR623_7 := am hi623_7
     have HC623_7 := am hl623_7
     clear hi623_7 hl623_7
     replace p623 := eq_true p623
     replace q623 := eq_true q623
     go_wp2_with (first | ((with_reducible refine gate_callee (f := 95) rfl ?_); refine goesL_ (some 17) rfl rfl Try.func95 (by kernel_rfl) rfl #[.agg #[.int .i64 ((rd_T35 l0 x5_1).f0), .int .i64 ((rd_T35 l0 x5_1).f1), .int .i64 ((rd_T35 l0 x5_1).f2), .int .i64 ((rd_T35 l0 x5_1).f3.f0), .int .i64 ((rd_T35 l0 x5_1).f3.f1), .slice A623_5 ((rd_T35 l0 x5_1).f3.f2).length c623_5, .slice A623_6 ((rd_T35 l0 x5_1).f4).length c623_6, .slice A623_7 ((rd_T35 l0 x5_1).f5).length c623_7], .int .i64 a1] rfl ab1_ ?_; (with_reducible refine (ih_spec_l11Ok k1 (by have := HK1.out; omega) ((rd_T35 l0 x5_1).f0) ((rd_T35 l0 x5_1).f1) ((rd_T35 l0 x5_1).f2) ((rd_T35 l0 x5_1).f3.f0) ((rd_T35 l0 x5_1).f3.f1) _ _ ((rd_T35 l0 x5_1).f3.f2) _ _ ((rd_T35 l0 x5_1).f4) _ _ ((rd_T35 l0 x5_1).f5) a1 false _ (aC_ (Kd.C_below HR623_5.out HB.out)) HC623_5.out (aC_ (Kd.C_below HR623_6.out HB.out)) HC623_6.out (aC_ (Kd.C_below HR623_7.out HB.out)) HC623_7.out A5.out).mono ?_); rintro e w8 ⟨rfl, hb⟩; refine ⟨_, rfl, ?_⟩; replace HB := am (below_step ab2_ hb); (try clear hb); (try clear hb2); (try clear hk); (try clear hi)))
     go_ret
     exact ⟨rr_, ab2_⟩
    rw [if_neg c4] at H
    exact absurd H (by simp)
   rw [if_neg c3] at H
   have c3b0 : decide (x5_1 < (l0.length : Int)) = false := decide_eq_false c3
   clear c3
   obtain rfl := Option.some.inj H
   go_wp2
   go_ret
   exact ⟨rr_, ab2_⟩
theorem spec_l11Ok.calls_all (k : Nat) : spec_l11Ok.CallsAt k ∧ spec_l11Blocks.CallsAt k := by
 induction k using Nat.strongRecOn with
 | _ k ih => exact ⟨spec_l11Ok.step k (ih_spec_l11Ok := fun m hm => (ih m hm).1) (ih_spec_l11Blocks := fun m hm => (ih m hm).2), spec_l11Blocks.step k (ih_spec_l11Ok := fun m hm => (ih m hm).1) (ih_spec_l11Blocks := fun m hm => (ih m hm).2)⟩
theorem spec_l11Ok.calls (k : Nat) : spec_l11Ok.CallsAt k := (spec_l11Ok.calls_all k).1
theorem spec_l11Blocks.calls (k : Nat) : spec_l11Blocks.CallsAt k := (spec_l11Ok.calls_all k).2
theorem spec_StmtsValid.mono : ∀ a0 k, LeO (spec_StmtsValid.f k a0) (spec_StmtsValid.f (k + 1) a0) := by
 intro a0 k
 unfold spec_StmtsValid.f
 repeat' first
   | (with_reducible exact spec_l11Blocks.mono _ _ _)
   | (with_reducible exact spec_l11Count.mono _ _)
   | (with_reducible exact LeO.refl _)
   | (with_reducible exact LeO.none _)
   | (with_reducible refine LeO.ite ?_ ?_)
   | (with_reducible refine LeO.bind ?_ (fun _ => ?_))
theorem spec_StmtsValid.calls (k : Nat) (A0 : Option Addr) (c0 : Nat) (l0 : List (S35)) (r : Bool) (w : World) (hr0 : Kd.C k35 w A0 l0.length l0) (hc0 : l0.length ≤ c0) (h : spec_StmtsValid.f k l0 = some r) :
  Calls Try.prog 47 #[.slice A0 l0.length c0] w fun e w' => e = .returned (.bool r) ∧ Below w.heap.size w w' := by
 have HR0 := am hr0
 have HC0 := am hc0
 clear hr0 hc0
 have HB := am (Below.refl w.heap.size w)
 have H : ((spec_l11Blocks.f k l0 3).bind fun t625 => (if t625 = true then ((spec_l11Count.f k l0).bind fun t626 => (some (decide (t626 ≤ 16)))) else (some false))) = some r := h
 clear h
 obtain ⟨t625, A20, H⟩ := bsm H
 (try dsimp only at H)
 have A2 := am A20
 clear A20
 by_cases c3 : t625 = true
 ·subst c3
  rw [if_pos rfl] at H
  obtain ⟨t626, A40, H⟩ := bsm H
  (try dsimp only at H)
  have A4 := am A40
  clear A40
  obtain rfl := Option.some.inj H
  go_enter Try.func47, Try.ntmps47
  go_wp2_with (first | ((with_reducible refine gate_callee (f := 79) rfl ?_); refine goesL_ (some 4) rfl rfl Try.func79 (by kernel_rfl) rfl #[.slice A0 l0.length c0, .int .i64 3] rfl ab1_ ?_; (with_reducible refine (spec_l11Blocks.calls k _ _ l0 3 true _ ?side1 HC0.out A2.out).mono ?_); (case side1 => repeat (first | exact HR0.out | (with_reducible refine Kd.C_alloc ?_ _) | (with_reducible refine Kd.C_drewN ?_ _) | (with_reducible refine Kd.C_drew ?_))); rintro e w5 ⟨rfl, hb⟩; refine ⟨_, rfl, ?_⟩; replace HB := am (below_step ab2_ hb); (try clear hb); (try clear hb2); (try clear hk); (try clear hi)) | (go_at_call 80; (with_reducible refine (spec_l11Count.calls k _ _ l0 t626 _ (aC_ (Kd.C_below HR0.out HB.out)) HC0.out A4.out).mono ?_); rintro e w6 ⟨rfl, hb⟩; replace HB := am (below_step ab2_ hb); (try clear hb); (try clear hb2); (try clear hk); (try clear hi)))
  go_ret
  exact ⟨rr_, ab2_⟩
 replace c3 := Bool.eq_false_iff.mpr c3
 subst c3
 rw [if_neg (show ¬ (false = true) by decide)] at H
 obtain rfl := Option.some.inj H
 go_enter Try.func47, Try.ntmps47
 go_wp2_with (first | ((with_reducible refine gate_callee (f := 79) rfl ?_); refine goesL_ (some 4) rfl rfl Try.func79 (by kernel_rfl) rfl #[.slice A0 l0.length c0, .int .i64 3] rfl ab1_ ?_; (with_reducible refine (spec_l11Blocks.calls k _ _ l0 3 false _ ?side1 HC0.out A2.out).mono ?_); (case side1 => repeat (first | exact HR0.out | (with_reducible refine Kd.C_alloc ?_ _) | (with_reducible refine Kd.C_drewN ?_ _) | (with_reducible refine Kd.C_drew ?_))); rintro e w7 ⟨rfl, hb⟩; refine ⟨_, rfl, ?_⟩; replace HB := am (below_step ab2_ hb); (try clear hb); (try clear hb2); (try clear hk); (try clear hi)))
 go_ret
 exact ⟨rr_, ab2_⟩
theorem spec_WordValid.calls (a0 : Int) (r : Bool) (w : World) (h : spec_WordValid.f a0 = some r) :
  Calls Try.prog 118 #[.int .i64 a0] w fun e w' => e = .returned (.bool r) ∧ Drawn0 w w' := by
 have H : ((spec_l6In.f a0 (-2147483648) 2147483647).bind fun t627 => (some t627)) = some r := h
 clear h
 obtain ⟨t627, A20, H⟩ := bsm H
 (try dsimp only at H)
 have A2 := am A20
 clear A20
 obtain rfl := Option.some.inj H
 go_enter Try.func118, Try.ntmps118
 go_wp2_with (first | ((with_reducible refine gate_callee (f := 88) rfl ?_); refine goesL_ (some 4) rfl rfl Try.func88 (by kernel_rfl) rfl #[.int .i64 a0, .int .i64 (-2147483648), .int .i64 2147483647] rfl ab1_ ?_; (with_reducible refine (spec_l6In.calls a0 (-2147483648) 2147483647 t627 _ A2.out).mono ?_); rintro e w' ⟨rfl, ⟨nd, rfl⟩⟩; refine ⟨_, rfl, ?_⟩))
 go_ret
 exact ⟨by first | rfl | (simp; done) | (simp [*]; done), ab18_⟩
theorem spec_l2Flag.calls (a0 : Bool) (r : Int) (w : World) (h : spec_l2Flag.f a0 = some r) :
  Calls Try.prog 119 #[.bool a0] w fun e w' => e = .returned (.int .i64 r) ∧ Drawn0 w w' := by
 have H : (if a0 = true then (some 1) else (some 0)) = some r := h
 clear h
 by_cases c2 : a0 = true
 ·subst c2
  rw [if_pos rfl] at H
  obtain rfl := Option.some.inj H
  go_enter Try.func119, Try.ntmps119
  go_wp2
  go_ret
  exact ⟨by first | rfl | (simp; done) | (simp [*]; done), ab18_⟩
 replace c2 := Bool.eq_false_iff.mpr c2
 subst c2
 rw [if_neg (show ¬ (false = true) by decide)] at H
 obtain rfl := Option.some.inj H
 go_enter Try.func119, Try.ntmps119
 go_wp2
 go_ret
 exact ⟨by first | rfl | (simp; done) | (simp [*]; done), ab18_⟩
theorem spec_Wrap.calls (a0 : Int) (r : Int) (w : World) (h : spec_Wrap.f a0 = some r) :
  Calls Try.prog 121 #[.int .i64 a0] w fun e w' => e = .returned (.int .i64 r) ∧ Drawn0 w w' := by
 have H : (if (Int.tmod a0 4294967296) > 2147483647 then (some (wrap64 ((Int.tmod a0 4294967296) - 4294967296))) else (if (Int.tmod a0 4294967296) < (-2147483648) then (some (wrap64 ((Int.tmod a0 4294967296) + 4294967296))) else (some (Int.tmod a0 4294967296)))) = some r := h
 clear h
 by_cases c2 : (Int.tmod a0 4294967296) > 2147483647
 ·rw [if_pos c2] at H
  have c2b0 : decide (2147483647 < (Int.tmod a0 4294967296)) = true := decide_eq_true c2
  clear c2
  obtain rfl := Option.some.inj H
  go_enter Try.func121, Try.ntmps121
  go_wp2
  go_ret
  exact ⟨by first | rfl | (simp; done) | (simp [*]; done), ab18_⟩
 rw [if_neg c2] at H
 have c2b0 : decide (2147483647 < (Int.tmod a0 4294967296)) = false := decide_eq_false c2
 clear c2
 by_cases c3 : (Int.tmod a0 4294967296) < (-2147483648)
 ·rw [if_pos c3] at H
  have c3b0 : decide ((Int.tmod a0 4294967296) < (-2147483648)) = true := decide_eq_true c3
  clear c3
  obtain rfl := Option.some.inj H
  go_enter Try.func121, Try.ntmps121
  go_wp2
  go_ret
  exact ⟨by first | rfl | (simp; done) | (simp [*]; done), ab18_⟩
 rw [if_neg c3] at H
 have c3b0 : decide ((Int.tmod a0 4294967296) < (-2147483648)) = false := decide_eq_false c3
 clear c3
 obtain rfl := Option.some.inj H
 go_enter Try.func121, Try.ntmps121
 go_wp2
 go_ret
 exact ⟨by first | rfl | (simp; done) | (simp [*]; done), ab18_⟩
theorem spec_l2Shift.calls (a0 : Int) (a1 : Int) (a2 : Bool) (r : Int) (w : World) (h : spec_l2Shift.f a0 a1 a2 = some r) :
  Calls Try.prog 120 #[.int .i64 a0, .int .i64 a1, .bool a2] w fun e w' => e = .returned (.int .i64 r) ∧ Drawn0 w w' := by
 have H : (if a2 = true then (if 0 ≤ (Go.bits .and .i64 a1 31) then (some (shr .i64 a0 (Go.bits .and .i64 a1 31))) else (none)) else (if 0 ≤ (Go.bits .and .i64 a1 31) then ((spec_Wrap.f (shl .i64 a0 (Go.bits .and .i64 a1 31))).bind fun t628 => (some t628)) else (none))) = some r := h
 clear h
 by_cases c4 : a2 = true
 ·subst c4
  rw [if_pos rfl] at H
  by_cases c5 : 0 ≤ (Go.bits .and .i64 a1 31)
  ·rw [if_pos c5] at H
   have c5b0 := eq_true c5
   have c5b1 : decide (0 ≤ (Go.bits .and .i64 a1 31)) = true := decide_eq_true c5
   clear c5
   obtain ⟨ji6, hji6⟩ : ∃ j_ : Int, (shr .i64 a0 (Go.bits .and .i64 a1 31)) = j_ := ⟨_, rfl⟩
   replace H : (some ji6) = some r := by first | (rw [hji6] at H; exact H) | (simp only [hji6] at H ⊢; exact H)
   have hji6_ : (a0 / 2 ^ min (Go.bits .and .i64 a1 31).toNat 64) = ji6 := hji6
   have hji6z : (Go.bits .and .i64 a1 31) ≤ 64 → (a0 / 2 ^ (Go.bits .and .i64 a1 31).toNat) = ji6 := shr_small hji6
   obtain rfl := Option.some.inj H
   go_enter Try.func120, Try.ntmps120
   go_wp2
   go_ret
   exact ⟨by first | rfl | (simp; done) | (simp only [← hji6] <;> (first | rfl | simp)) | (simp [*]; done), ab18_⟩
  rw [if_neg c5] at H
  exact absurd H (by simp)
 replace c4 := Bool.eq_false_iff.mpr c4
 subst c4
 rw [if_neg (show ¬ (false = true) by decide)] at H
 by_cases c7 : 0 ≤ (Go.bits .and .i64 a1 31)
 ·rw [if_pos c7] at H
  have c7b0 := eq_true c7
  have c7b1 : decide (0 ≤ (Go.bits .and .i64 a1 31)) = true := decide_eq_true c7
  clear c7
  obtain ⟨ji8, hji8⟩ : ∃ j_ : Int, (shl .i64 a0 (Go.bits .and .i64 a1 31)) = j_ := ⟨_, rfl⟩
  replace H : ((spec_Wrap.f (ji8)).bind fun t628 => (some t628)) = some r := by first | (rw [hji8] at H; exact H) | (simp only [hji8] at H ⊢; exact H)
  have hji8_ : (IntKind.i64.wrap (a0 * 2 ^ min (Go.bits .and .i64 a1 31).toNat 64)) = ji8 := hji8
  have hji8z : (Go.bits .and .i64 a1 31) ≤ 64 → (IntKind.i64.wrap (a0 * 2 ^ (Go.bits .and .i64 a1 31).toNat)) = ji8 := shl_small hji8
  have hji8y : (wrap64 (a0 * 2 ^ min (Go.bits .and .i64 a1 31).toNat 64)) = ji8 := (i64_w _).symm.trans hji8_
  have hji8x : (Go.bits .and .i64 a1 31) ≤ 64 → (wrap64 (a0 * 2 ^ (Go.bits .and .i64 a1 31).toNat)) = ji8 := fun h_ => (i64_w _).symm.trans (hji8z h_)
  obtain ⟨t628, A90, H⟩ := bsm H
  (try dsimp only at H)
  have A9 := am A90
  clear A90
  obtain rfl := Option.some.inj H
  go_enter Try.func120, Try.ntmps120
  go_wp2_with (first | ((with_reducible refine gate_callee (f := 121) rfl ?_); refine goesL_ (some 16) rfl rfl Try.func121 (by kernel_rfl) rfl #[.int .i64 ji8] rfl (by (try simp only [List.map_toArray, List.map_cons, List.map_nil]); first | done | (simp only [hji8]; rfl) | rfl | (simp only [List.length_drop, List.length_take]; rfl)) ?_; (with_reducible refine (spec_Wrap.calls ji8 t628 _ A9.out).mono ?_); rintro e w' ⟨rfl, ⟨nd, rfl⟩⟩; refine ⟨_, rfl, ?_⟩))
  go_ret
  exact ⟨by first | rfl | (simp; done) | (simp only [← hji8] <;> (first | rfl | simp)) | (simp [*]; done), ab18_⟩
 rw [if_neg c7] at H
 exact absurd H (by simp)
theorem spec_l2Divide.calls (a0 : Int) (a1 : Int) (r : Int) (w : World) (h : spec_l2Divide.f a0 a1 = some r) :
  Calls Try.prog 122 #[.int .i64 a0, .int .i64 a1] w fun e w' => e = .returned (.int .i64 r) ∧ Drawn0 w w' := by
 have H : (if a1 = 0 then (some (-1)) else ((spec_Wrap.f (wrap64 (Int.tdiv a0 a1))).bind fun t629 => (some t629))) = some r := h
 clear h
 by_cases c3 : a1 = 0
 ·rw [if_pos c3] at H
  have c3b0 : (a1 == 0) = true := beq_iff_eq.mpr c3
  have c3b1 : (a1 != 0) = false := bne_eq_false_iff_eq.mpr c3
  clear c3
  obtain rfl := Option.some.inj H
  go_enter Try.func122, Try.ntmps122
  go_wp2
  go_ret
  exact ⟨by first | rfl | (simp; done) | (simp [*]; done), ab18_⟩
 rw [if_neg c3] at H
 have c3b0 : (a1 == 0) = false := beq_eq_false_iff_ne.mpr c3
 have c3b1 : (a1 != 0) = true := bne_iff_ne.mpr c3
 obtain ⟨t629, A40, H⟩ := bsm H
 (try dsimp only at H)
 have A4 := am A40
 clear A40
 obtain rfl := Option.some.inj H
 go_enter Try.func122, Try.ntmps122
 go_wp2_with (first | ((with_reducible refine gate_callee (f := 121) rfl ?_); refine goesL_ (some 10) rfl rfl Try.func121 (by kernel_rfl) rfl #[.int .i64 (wrap64 (Int.tdiv a0 a1))] rfl ab1_ ?_; (with_reducible refine (spec_Wrap.calls (wrap64 (Int.tdiv a0 a1)) t629 _ A4.out).mono ?_); rintro e w' ⟨rfl, ⟨nd, rfl⟩⟩; refine ⟨_, rfl, ?_⟩))
 go_ret
 exact ⟨by first | rfl | (simp; done) | (simp [*]; done), ab18_⟩
theorem spec_l2Remain.calls (a0 : Int) (a1 : Int) (r : Int) (w : World) (h : spec_l2Remain.f a0 a1 = some r) :
  Calls Try.prog 123 #[.int .i64 a0, .int .i64 a1] w fun e w' => e = .returned (.int .i64 r) ∧ Drawn0 w w' := by
 have H : (if a1 = 0 then (some a0) else (some (Int.tmod a0 a1))) = some r := h
 clear h
 by_cases c3 : a1 = 0
 ·rw [if_pos c3] at H
  have c3b0 : (a1 == 0) = true := beq_iff_eq.mpr c3
  have c3b1 : (a1 != 0) = false := bne_eq_false_iff_eq.mpr c3
  clear c3
  obtain rfl := Option.some.inj H
  go_enter Try.func123, Try.ntmps123
  go_wp2
  go_ret
  exact ⟨by first | rfl | (simp; done) | (simp [*]; done), ab18_⟩
 rw [if_neg c3] at H
 have c3b0 : (a1 == 0) = false := beq_eq_false_iff_ne.mpr c3
 have c3b1 : (a1 != 0) = true := bne_iff_ne.mpr c3
 obtain rfl := Option.some.inj H
 go_enter Try.func123, Try.ntmps123
 go_wp2
 go_ret
 exact ⟨by first | rfl | (simp; done) | (simp [*]; done), ab18_⟩
theorem spec_Apply.mono_l : ∀ k, (∀ y0 y1 y2 y3, LeO (spec_Apply.j0 k y0 y1 y2 y3) (spec_Apply.j0 (k + 1) y0 y1 y2 y3))
 | 0 => fun _ _ _ _ r h => by simp [spec_Apply.j0] at h
 | k + 1 => by
  have ih0 := spec_Apply.mono_l k
  ·intro y0 y1 y2 y3
   unfold spec_Apply.j0
   repeat' first
   | (with_reducible exact ih0 _ _ _ _)
   | (with_reducible exact LeO.refl _)
   | (with_reducible exact LeO.none _)
   | (with_reducible refine LeO.ite ?_ ?_)
   | (with_reducible refine LeO.bind ?_ (fun _ => ?_))
theorem spec_Apply.mono : ∀ a0 a1 a2 k, LeO (spec_Apply.f k a0 a1 a2) (spec_Apply.f (k + 1) a0 a1 a2) := by
 intro a0 a1 a2 k
 have ih0 := spec_Apply.mono_l k
 unfold spec_Apply.f
 repeat' first
   | (with_reducible exact ih0 _ _ _ _)
   | (with_reducible exact LeO.refl _)
   | (with_reducible exact LeO.none _)
   | (with_reducible refine LeO.ite ?_ ?_)
   | (with_reducible refine LeO.bind ?_ (fun _ => ?_))
theorem spec_Apply.calls (k : Nat) (a0 : Int) (a1 : Int) (a2 : Int) (r1 : Int) (r2 : Bool) (w : World) (h : spec_Apply.f k a0 a1 a2 = some (r1, r2)) :
  Calls Try.prog 112 #[.int .i64 a0, .int .i64 a1, .int .i64 a2] w fun e w' => e = .returned (.tuple #[.int .i64 r1, .bool r2]) ∧ Drawn0 w w' := by
 have H : ((spec_OpValid.f a0).bind fun t630 => (if t630 = true then ((spec_WordValid.f a1).bind fun t631 => (if t631 = true then ((spec_WordValid.f a2).bind fun t632 => (spec_Apply.j0 k a0 a1 a2 (!t632))) else (spec_Apply.j0 k a0 a1 a2 true))) else (spec_Apply.j0 k a0 a1 a2 true))) = some (r1, r2) := h
 clear h
 have HC4 := am H
 clear H
 go_enter Try.func112, Try.ntmps112
 go_upto_region 1 with (fail)
 go_cut [20] (fun v20 wc => ∃ (kq : Nat) (x20_3 : Bool), v20 = .bool x20_3 ∧ Aside0 (spec_Apply.j0 kq a0 a1 a2 x20_3 = some (r1, r2)) ∧ Aside0 (kq ≤ k) ∧ Drawn0 w wc)
 case first =>
  have H := HC4.out
  clear HC4
  obtain ⟨t630, A50, H⟩ := bsm H
  (try dsimp only at H)
  have A5 := am A50
  clear A50
  by_cases c6 : t630 = true
  ·subst c6
   rw [if_pos rfl] at H
   obtain ⟨t631, A70, H⟩ := bsm H
   (try dsimp only at H)
   have A7 := am A70
   clear A70
   by_cases c8 : t631 = true
   ·subst c8
    rw [if_pos rfl] at H
    obtain ⟨t632, A90, H⟩ := bsm H
    (try dsimp only at H)
    have A9 := am A90
    clear A90
    have H' := am H
    clear H
    go_wp2_with (first | ((with_reducible refine gate_callee (f := 117) rfl ?_); refine goesL_ (some 9) rfl rfl Try.func117 (by kernel_rfl) rfl #[.int .i64 a0] rfl ab1_ ?_; (with_reducible refine (spec_OpValid.calls a0 true _ A5.out).mono ?_); rintro e w' ⟨rfl, ⟨nd, rfl⟩⟩; refine ⟨_, rfl, ?_⟩) | (go_at_call 118; (with_reducible refine (spec_WordValid.calls a1 true _ A7.out).mono ?_); rintro e w' ⟨rfl, ⟨nd, rfl⟩⟩) | (go_at_call 118; (with_reducible refine (spec_WordValid.calls a2 t632 _ A9.out).mono ?_); rintro e w' ⟨rfl, ⟨nd, rfl⟩⟩))
    go_meet
    case rel => exact ⟨_, (!t632), sd_, H', ⟨by first | omega | exact Nat.le_refl _⟩, ab18_⟩
   replace c8 := Bool.eq_false_iff.mpr c8
   subst c8
   rw [if_neg (show ¬ (false = true) by decide)] at H
   have H' := am H
   clear H
   go_wp2_with (first | ((with_reducible refine gate_callee (f := 117) rfl ?_); refine goesL_ (some 9) rfl rfl Try.func117 (by kernel_rfl) rfl #[.int .i64 a0] rfl ab1_ ?_; (with_reducible refine (spec_OpValid.calls a0 true _ A5.out).mono ?_); rintro e w' ⟨rfl, ⟨nd, rfl⟩⟩; refine ⟨_, rfl, ?_⟩) | (go_at_call 118; (with_reducible refine (spec_WordValid.calls a1 false _ A7.out).mono ?_); rintro e w' ⟨rfl, ⟨nd, rfl⟩⟩))
   go_meet
   case rel => exact ⟨_, (true), sd_, H', ⟨by first | omega | exact Nat.le_refl _⟩, ab18_⟩
  replace c6 := Bool.eq_false_iff.mpr c6
  subst c6
  rw [if_neg (show ¬ (false = true) by decide)] at H
  have H' := am H
  clear H
  go_wp2_with (first | ((with_reducible refine gate_callee (f := 117) rfl ?_); refine goesL_ (some 9) rfl rfl Try.func117 (by kernel_rfl) rfl #[.int .i64 a0] rfl ab1_ ?_; (with_reducible refine (spec_OpValid.calls a0 false _ A5.out).mono ?_); rintro e w' ⟨rfl, ⟨nd, rfl⟩⟩; refine ⟨_, rfl, ?_⟩))
  go_meet
  case rel => exact ⟨_, (true), sd_, H', ⟨by first | omega | exact Nat.le_refl _⟩, ab18_⟩
 case rest =>
  clear HC4
  obtain ⟨kq, x20_3, rfl, HA, HJ3, ⟨mc3, rfl⟩⟩ := hcut
  cases kq with
  | zero => exact absurd HA.out (by simp [spec_Apply.j0])
  | succ kj3 =>
   have H := HA.out
   clear HA
   simp only [spec_Apply.j0] at H
   by_cases c10 : x20_3 = true
   ·subst c10
    rw [if_pos rfl] at H
    simp only [Option.some.injEq, Prod.mk.injEq] at H
    obtain ⟨rfl, rfl⟩ := H
    go_wp2
    go_ret2
    exact ⟨by first | rfl | (simp; done) | (simp [*]; done), ab18_⟩
   replace c10 := Bool.eq_false_iff.mpr c10
   subst c10
   rw [if_neg (show ¬ (false = true) by decide)] at H
   by_cases c11 : a0 = 1
   ·rw [if_pos c11] at H
    have c11b0 : (a0 == 1) = true := beq_iff_eq.mpr c11
    have c11b1 : (a0 != 1) = false := bne_eq_false_iff_eq.mpr c11
    clear c11
    simp only [Option.some.injEq, Prod.mk.injEq] at H
    obtain ⟨rfl, rfl⟩ := H
    go_wp2
    go_ret2
    exact ⟨by first | rfl | (simp; done) | (simp [*]; done), ab18_⟩
   rw [if_neg c11] at H
   have c11b0 : (a0 == 1) = false := beq_eq_false_iff_ne.mpr c11
   have c11b1 : (a0 != 1) = true := bne_iff_ne.mpr c11
   by_cases c12 : a0 = 2
   ·rw [if_pos c12] at H
    have c12b0 : (a0 == 2) = true := beq_iff_eq.mpr c12
    have c12b1 : (a0 != 2) = false := bne_eq_false_iff_eq.mpr c12
    clear c12
    simp only [Option.some.injEq, Prod.mk.injEq] at H
    obtain ⟨rfl, rfl⟩ := H
    go_wp2
    go_ret2
    exact ⟨by first | rfl | (simp; done) | (simp [*]; done), ab18_⟩
   rw [if_neg c12] at H
   have c12b0 : (a0 == 2) = false := beq_eq_false_iff_ne.mpr c12
   have c12b1 : (a0 != 2) = true := bne_iff_ne.mpr c12
   by_cases c13 : a0 = 3
   ·rw [if_pos c13] at H
    have c13b0 : (a0 == 3) = true := beq_iff_eq.mpr c13
    have c13b1 : (a0 != 3) = false := bne_eq_false_iff_eq.mpr c13
    clear c13
    simp only [Option.some.injEq, Prod.mk.injEq] at H
    obtain ⟨rfl, rfl⟩ := H
    go_wp2
    go_ret2
    exact ⟨by first | rfl | (simp; done) | (simp [*]; done), ab18_⟩
   rw [if_neg c13] at H
   have c13b0 : (a0 == 3) = false := beq_eq_false_iff_ne.mpr c13
   have c13b1 : (a0 != 3) = true := bne_iff_ne.mpr c13
   by_cases c14 : a0 = 4
   ·rw [if_pos c14] at H
    have c14b0 : (a0 == 4) = true := beq_iff_eq.mpr c14
    have c14b1 : (a0 != 4) = false := bne_eq_false_iff_eq.mpr c14
    clear c14
    obtain ⟨t633, A150, H⟩ := bsm H
    (try dsimp only at H)
    have A15 := am A150
    clear A150
    simp only [Option.some.injEq, Prod.mk.injEq] at H
    obtain ⟨rfl, rfl⟩ := H
    go_wp2_with (first | ((with_reducible refine gate_callee (f := 119) rfl ?_); refine goesL_ (some 42) rfl rfl Try.func119 (by kernel_rfl) rfl #[.bool (a1 == a2)] rfl ab1_ ?_; (with_reducible refine (spec_l2Flag.calls (a1 == a2) t633 _ A15.out).mono ?_); rintro e w' ⟨rfl, ⟨nd, rfl⟩⟩; refine ⟨_, rfl, ?_⟩))
    go_ret2
    exact ⟨by first | rfl | (simp; done) | (simp [*]; done), ab18_⟩
   rw [if_neg c14] at H
   have c14b0 : (a0 == 4) = false := beq_eq_false_iff_ne.mpr c14
   have c14b1 : (a0 != 4) = true := bne_iff_ne.mpr c14
   by_cases c16 : a0 = 5
   ·rw [if_pos c16] at H
    have c16b0 : (a0 == 5) = true := beq_iff_eq.mpr c16
    have c16b1 : (a0 != 5) = false := bne_eq_false_iff_eq.mpr c16
    clear c16
    obtain ⟨t634, A170, H⟩ := bsm H
    (try dsimp only at H)
    have A17 := am A170
    clear A170
    simp only [Option.some.injEq, Prod.mk.injEq] at H
    obtain ⟨rfl, rfl⟩ := H
    go_wp2_with (first | ((with_reducible refine gate_callee (f := 119) rfl ?_); refine goesL_ (some 48) rfl rfl Try.func119 (by kernel_rfl) rfl #[.bool (decide (a1 < a2))] rfl ab1_ ?_; (with_reducible refine (spec_l2Flag.calls (decide (a1 < a2)) t634 _ A17.out).mono ?_); rintro e w' ⟨rfl, ⟨nd, rfl⟩⟩; refine ⟨_, rfl, ?_⟩))
    go_ret2
    exact ⟨by first | rfl | (simp; done) | (simp [*]; done), ab18_⟩
   rw [if_neg c16] at H
   have c16b0 : (a0 == 5) = false := beq_eq_false_iff_ne.mpr c16
   have c16b1 : (a0 != 5) = true := bne_iff_ne.mpr c16
   by_cases c18 : a0 = 6
   ·rw [if_pos c18] at H
    have c18b0 : (a0 == 6) = true := beq_iff_eq.mpr c18
    have c18b1 : (a0 != 6) = false := bne_eq_false_iff_eq.mpr c18
    clear c18
    obtain ⟨t635, A190, H⟩ := bsm H
    (try dsimp only at H)
    have A19 := am A190
    clear A190
    simp only [Option.some.injEq, Prod.mk.injEq] at H
    obtain ⟨rfl, rfl⟩ := H
    go_wp2_with (first | ((with_reducible refine gate_callee (f := 120) rfl ?_); refine goesL_ (some 53) rfl rfl Try.func120 (by kernel_rfl) rfl #[.int .i64 a1, .int .i64 a2, .bool false] rfl ab1_ ?_; (with_reducible refine (spec_l2Shift.calls a1 a2 false t635 _ A19.out).mono ?_); rintro e w' ⟨rfl, ⟨nd, rfl⟩⟩; refine ⟨_, rfl, ?_⟩))
    go_ret2
    exact ⟨by first | rfl | (simp; done) | (simp [*]; done), ab18_⟩
   rw [if_neg c18] at H
   have c18b0 : (a0 == 6) = false := beq_eq_false_iff_ne.mpr c18
   have c18b1 : (a0 != 6) = true := bne_iff_ne.mpr c18
   by_cases c20 : a0 = 7
   ·rw [if_pos c20] at H
    have c20b0 : (a0 == 7) = true := beq_iff_eq.mpr c20
    have c20b1 : (a0 != 7) = false := bne_eq_false_iff_eq.mpr c20
    clear c20
    obtain ⟨t636, A210, H⟩ := bsm H
    (try dsimp only at H)
    have A21 := am A210
    clear A210
    simp only [Option.some.injEq, Prod.mk.injEq] at H
    obtain ⟨rfl, rfl⟩ := H
    go_wp2_with (first | ((with_reducible refine gate_callee (f := 120) rfl ?_); refine goesL_ (some 58) rfl rfl Try.func120 (by kernel_rfl) rfl #[.int .i64 a1, .int .i64 a2, .bool true] rfl ab1_ ?_; (with_reducible refine (spec_l2Shift.calls a1 a2 true t636 _ A21.out).mono ?_); rintro e w' ⟨rfl, ⟨nd, rfl⟩⟩; refine ⟨_, rfl, ?_⟩))
    go_ret2
    exact ⟨by first | rfl | (simp; done) | (simp [*]; done), ab18_⟩
   rw [if_neg c20] at H
   have c20b0 : (a0 == 7) = false := beq_eq_false_iff_ne.mpr c20
   have c20b1 : (a0 != 7) = true := bne_iff_ne.mpr c20
   by_cases c22 : a0 = 8
   ·rw [if_pos c22] at H
    have c22b0 : (a0 == 8) = true := beq_iff_eq.mpr c22
    have c22b1 : (a0 != 8) = false := bne_eq_false_iff_eq.mpr c22
    clear c22
    obtain ⟨t637, A230, H⟩ := bsm H
    (try dsimp only at H)
    have A23 := am A230
    clear A230
    simp only [Option.some.injEq, Prod.mk.injEq] at H
    obtain ⟨rfl, rfl⟩ := H
    go_wp2_with (first | ((with_reducible refine gate_callee (f := 121) rfl ?_); refine goesL_ (some 64) rfl rfl Try.func121 (by kernel_rfl) rfl #[.int .i64 (wrap64 (a1 + a2))] rfl ab1_ ?_; (with_reducible refine (spec_Wrap.calls (wrap64 (a1 + a2)) t637 _ A23.out).mono ?_); rintro e w' ⟨rfl, ⟨nd, rfl⟩⟩; refine ⟨_, rfl, ?_⟩))
    go_ret2
    exact ⟨by first | rfl | (simp; done) | (simp [*]; done), ab18_⟩
   rw [if_neg c22] at H
   have c22b0 : (a0 == 8) = false := beq_eq_false_iff_ne.mpr c22
   have c22b1 : (a0 != 8) = true := bne_iff_ne.mpr c22
   by_cases c24 : a0 = 9
   ·rw [if_pos c24] at H
    have c24b0 : (a0 == 9) = true := beq_iff_eq.mpr c24
    have c24b1 : (a0 != 9) = false := bne_eq_false_iff_eq.mpr c24
    clear c24
    obtain ⟨t638, A250, H⟩ := bsm H
    (try dsimp only at H)
    have A25 := am A250
    clear A250
    simp only [Option.some.injEq, Prod.mk.injEq] at H
    obtain ⟨rfl, rfl⟩ := H
    go_wp2_with (first | ((with_reducible refine gate_callee (f := 121) rfl ?_); refine goesL_ (some 70) rfl rfl Try.func121 (by kernel_rfl) rfl #[.int .i64 (wrap64 (a1 - a2))] rfl ab1_ ?_; (with_reducible refine (spec_Wrap.calls (wrap64 (a1 - a2)) t638 _ A25.out).mono ?_); rintro e w' ⟨rfl, ⟨nd, rfl⟩⟩; refine ⟨_, rfl, ?_⟩))
    go_ret2
    exact ⟨by first | rfl | (simp; done) | (simp [*]; done), ab18_⟩
   rw [if_neg c24] at H
   have c24b0 : (a0 == 9) = false := beq_eq_false_iff_ne.mpr c24
   have c24b1 : (a0 != 9) = true := bne_iff_ne.mpr c24
   by_cases c26 : a0 = 10
   ·rw [if_pos c26] at H
    have c26b0 : (a0 == 10) = true := beq_iff_eq.mpr c26
    have c26b1 : (a0 != 10) = false := bne_eq_false_iff_eq.mpr c26
    clear c26
    obtain ⟨t639, A270, H⟩ := bsm H
    (try dsimp only at H)
    have A27 := am A270
    clear A270
    simp only [Option.some.injEq, Prod.mk.injEq] at H
    obtain ⟨rfl, rfl⟩ := H
    go_wp2_with (first | ((with_reducible refine gate_callee (f := 121) rfl ?_); refine goesL_ (some 76) rfl rfl Try.func121 (by kernel_rfl) rfl #[.int .i64 (wrap64 (a1 * a2))] rfl ab1_ ?_; (with_reducible refine (spec_Wrap.calls (wrap64 (a1 * a2)) t639 _ A27.out).mono ?_); rintro e w' ⟨rfl, ⟨nd, rfl⟩⟩; refine ⟨_, rfl, ?_⟩))
    go_ret2
    exact ⟨by first | rfl | (simp; done) | (simp [*]; done), ab18_⟩
   rw [if_neg c26] at H
   have c26b0 : (a0 == 10) = false := beq_eq_false_iff_ne.mpr c26
   have c26b1 : (a0 != 10) = true := bne_iff_ne.mpr c26
   by_cases c28 : a0 = 11
   ·rw [if_pos c28] at H
    have c28b0 : (a0 == 11) = true := beq_iff_eq.mpr c28
    have c28b1 : (a0 != 11) = false := bne_eq_false_iff_eq.mpr c28
    clear c28
    obtain ⟨t640, A290, H⟩ := bsm H
    (try dsimp only at H)
    have A29 := am A290
    clear A290
    simp only [Option.some.injEq, Prod.mk.injEq] at H
    obtain ⟨rfl, rfl⟩ := H
    go_wp2_with (first | ((with_reducible refine gate_callee (f := 122) rfl ?_); refine goesL_ (some 81) rfl rfl Try.func122 (by kernel_rfl) rfl #[.int .i64 a1, .int .i64 a2] rfl ab1_ ?_; (with_reducible refine (spec_l2Divide.calls a1 a2 t640 _ A29.out).mono ?_); rintro e w' ⟨rfl, ⟨nd, rfl⟩⟩; refine ⟨_, rfl, ?_⟩))
    go_ret2
    exact ⟨by first | rfl | (simp; done) | (simp [*]; done), ab18_⟩
   rw [if_neg c28] at H
   have c28b0 : (a0 == 11) = false := beq_eq_false_iff_ne.mpr c28
   have c28b1 : (a0 != 11) = true := bne_iff_ne.mpr c28
   obtain ⟨t641, A300, H⟩ := bsm H
   (try dsimp only at H)
   have A30 := am A300
   clear A300
   simp only [Option.some.injEq, Prod.mk.injEq] at H
   obtain ⟨rfl, rfl⟩ := H
   go_wp2_with (first | ((with_reducible refine gate_callee (f := 123) rfl ?_); refine goesL_ (some 84) rfl rfl Try.func123 (by kernel_rfl) rfl #[.int .i64 a1, .int .i64 a2] rfl ab1_ ?_; (with_reducible refine (spec_l2Remain.calls a1 a2 t641 _ A30.out).mono ?_); rintro e w' ⟨rfl, ⟨nd, rfl⟩⟩; refine ⟨_, rfl, ?_⟩))
   go_ret2
   exact ⟨by first | rfl | (simp; done) | (simp [*]; done), ab18_⟩
theorem spec_l4Fold.mono_l : ∀ k, (∀ y0 y1 y2, LeO (spec_l4Fold.f k y0 y1 y2) (spec_l4Fold.f (k + 1) y0 y1 y2)) ∧ (∀ y0 y1 y2 y3 y4 y5 y6 y7 y8 y9, LeO (spec_l4Fold.j0 k y0 y1 y2 y3 y4 y5 y6 y7 y8 y9) (spec_l4Fold.j0 (k + 1) y0 y1 y2 y3 y4 y5 y6 y7 y8 y9))
 | 0 => ⟨fun _ _ _ r h => by simp [spec_l4Fold.f] at h, fun _ _ _ _ _ _ _ _ _ _ r h => by simp [spec_l4Fold.j0] at h⟩
 | k + 1 => by
  obtain ⟨ih0, ih1⟩ := spec_l4Fold.mono_l k
  refine ⟨?_, ?_⟩
  ·intro y0 y1 y2
   unfold spec_l4Fold.f
   repeat' first
   | (with_reducible exact ih0 _ _ _)
   | (with_reducible exact ih1 _ _ _ _ _ _ _ _ _ _)
   | (with_reducible exact spec_Apply.mono _ _ _ _)
   | (with_reducible exact LeO.refl _)
   | (with_reducible exact LeO.none _)
   | (with_reducible refine LeO.ite ?_ ?_)
   | (with_reducible refine LeO.bind ?_ (fun _ => ?_))
  ·intro y0 y1 y2 y3 y4 y5 y6 y7 y8 y9
   unfold spec_l4Fold.j0
   repeat' first
   | (with_reducible exact ih0 _ _ _)
   | (with_reducible exact ih1 _ _ _ _ _ _ _ _ _ _)
   | (with_reducible exact spec_Apply.mono _ _ _ _)
   | (with_reducible exact LeO.refl _)
   | (with_reducible exact LeO.none _)
   | (with_reducible refine LeO.ite ?_ ?_)
   | (with_reducible refine LeO.bind ?_ (fun _ => ?_))
theorem spec_l4Fold.mono : ∀ a0 a1 a2 k, LeO (spec_l4Fold.f k a0 a1 a2) (spec_l4Fold.f (k + 1) a0 a1 a2) := by
 intro a0 a1 a2 k
 obtain ⟨ih0, ih1⟩ := spec_l4Fold.mono_l k
 exact ih0 a0 a1 a2
theorem spec_l4Fold.calls (k : Nat) : ∀ (a0_0 : Int) (a0_1 : Int) (A0_2 : Option Addr) (c0_2 : Nat) (l0_2 : List (S32)) (r1 : Int) (r2 : Int) (r3 : List (S32)) (w : World) (hr0_2 : Kd.C k32 w A0_2 l0_2.length l0_2) (hc0_2 : l0_2.length ≤ c0_2) (h : spec_l4Fold.f k a0_0 a0_1 l0_2 = some (r1, r2, r3)),
  Calls Try.prog 96 #[.agg #[.int .i64 a0_0, .int .i64 a0_1, .slice A0_2 l0_2.length c0_2]] w fun e w' => ∃ v2_ : Value, e = .returned (.agg #[.int .i64 r1, .int .i64 r2, v2_]) ∧ Kd.N k32 32 w' w.heap.size (fun k_ => (w.heap.size ≤ k_)) v2_ r3 ∧ Below w.heap.size w w' := by
 induction k using Nat.strongRecOn with
 | _ k ih =>
 intro a0_0 a0_1 A0_2 c0_2 l0_2 r1 r2 r3 w hr0_2 hc0_2 h
 cases k with
 | zero => exact absurd h (by simp [spec_l4Fold.f])
 | succ k =>
 simp only [spec_l4Fold.f] at h
 have hu32 := Try.underlying32
 have HR0_2 := am hr0_2
 have HC0_2 := am hc0_2
 clear hr0_2 hc0_2
 have HB := am (Below.refl w.heap.size w)
 have H : (if (l0_2.length : Int) = 0 then ((spec_l4Leaf.f a0_0 a0_1).bind fun bt644 => (some (bt644.1, bt644.2.1, bt644.2.2))) else (if 0 < (l0_2.length : Int) then ((spec_l4Fold.f k ((rd_T32 l0_2 0).f0) ((rd_T32 l0_2 0).f1) ((rd_T32 l0_2 0).f2)).bind fun bt650 => (if 1 < (l0_2.length : Int) then ((spec_l4Fold.f k ((rd_T32 l0_2 1).f0) ((rd_T32 l0_2 1).f1) ((rd_T32 l0_2 1).f2)).bind fun bt657 => (if bt650.1 = 0 then (spec_l4Fold.j0 k (bt657.1 == 0) a0_0 a0_1 l0_2 bt650.1 bt650.2.1 bt650.2.2 bt657.1 bt657.2.1 bt657.2.2) else (spec_l4Fold.j0 k false a0_0 a0_1 l0_2 bt650.1 bt650.2.1 bt650.2.2 bt657.1 bt657.2.1 bt657.2.2))) else (none))) else (none))) = some (r1, r2, r3) := h
 clear h
 by_cases c2 : (l0_2.length : Int) = 0
 ·rw [if_pos c2] at H
  have c2b0 : ((l0_2.length : Int) == 0) = true := beq_iff_eq.mpr c2
  have c2b1 : ((l0_2.length : Int) != 0) = false := bne_eq_false_iff_eq.mpr c2
  clear c2
  obtain ⟨⟨t644, t645, t646⟩, A30, H⟩ := bsm H
  (try dsimp only at H)
  have A3 := am A30
  clear A30
  simp only [Option.some.injEq, Prod.mk.injEq] at H
  obtain ⟨rfl, rfl, rfl⟩ := H
  go_enter Try.func96, Try.ntmps96
  go_wp2_with (first | ((with_reducible refine gate_dst (N := 1) rfl ?_); refine box_event rfl (N := 1) rfl (cs := #[.int .i64 a0_0, .int .i64 a0_1, .slice A0_2 l0_2.length c0_2]) (t := 32) rn_ ?_; intro gb642 hg w4 hbox hb; have BK642 := am (hbox); have GW642 := am ((by rw [hg]; exact (below_size ab2_) : w.heap.size ≤ gb642)); have GE642 := am ((by rw [hg]; exact (below_size ab2_) : w.heap.size ≤ gb642)); replace HB := am (below_step ab2_ hb); clear hb hbox hg) | ((with_reducible refine gate_dst (N := 2) rfl ?_); refine box_event rfl (N := 2) rfl (cs := #[.int .i64 0, .int .i64 0, .slice none 0 0]) (t := 32) rn_ ?_; intro gb643 hg w5 hbox hb; have BK643 := am (hbox); have GW643 := am ((by rw [hg]; exact (below_size ab56_) : w.heap.size ≤ gb643)); have GE643 := am ((by rw [hg]; exact (below_size ab56_) : w.heap.size ≤ gb643)); replace HB := am (below_step ab56_ hb); have NB642_643 := am ((by rw [hg]; exact Nat.ne_of_lt (blk_lt (g := gb642) (o := .cells #[.int .i64 a0_0, .int .i64 a0_1, .slice A0_2 l0_2.length c0_2] 32 (0, 0)) (aG_ BK642.out)) : gb642 ≠ gb643)); have NB643_642 := am ((by rw [hg]; exact Nat.ne_of_gt (blk_lt (g := gb642) (o := .cells #[.int .i64 a0_0, .int .i64 a0_1, .slice A0_2 l0_2.length c0_2] 32 (0, 0)) (aG_ BK642.out)) : gb643 ≠ gb642)); replace BK642 := am (blk_below (g := gb642) (o := .cells #[.int .i64 a0_0, .int .i64 a0_1, .slice A0_2 l0_2.length c0_2] 32 (0, 0)) (aG_ BK642.out) hb); clear hb hbox hg; have hnb6 := NB642_643.out; have hnc6 := NB643_642.out; obtain ⟨hcz7_0, hcz7_1, hcz7_2, hfz7_0, hfz7_1, hfz7_2⟩ := bcf3_ BK642.out) | ((with_reducible refine gate_callee (f := 45) rfl ?_); refine goesL_ (some 15) rfl rfl Try.func45 (by kernel_rfl) rfl #[.int .i64 a0_0, .int .i64 a0_1] rfl ab1_ ?_; (with_reducible refine (spec_l4Leaf.calls a0_0 a0_1 t644 t645 t646 _ A3.out).mono ?_); rintro e w8 ⟨v647, rfl, ho0, hb⟩; refine ⟨_, rfl, ?_⟩; have HO648 := am (Kd.N_lower (Kd.N_mono (ok' := fun k_ => (w.heap.size ≤ k_) ∧ k_ ≠ gb642 ∧ k_ ≠ gb643) (Kd.R_N (Kd.R_bound ho0)) (fun k_ hk_ => ⟨(Nat.le_trans (below_size ab34_) hk_.2.1), (Kd.freshB (g := gb642) (o := .cells #[.int .i64 a0_0, .int .i64 a0_1, .slice A0_2 l0_2.length c0_2] 32 (0, 0)) (aG_ BK642.out) k_ hk_.2.1), (Kd.freshB (g := gb643) (o := .cells #[.int .i64 0, .int .i64 0, .slice none 0 0] 32 (0, 0)) (aG_ BK643.out) k_ hk_.2.1)⟩)) (below_size ab34_)); replace BK642 := am (blk_below (g := gb642) (o := .cells #[.int .i64 a0_0, .int .i64 a0_1, .slice A0_2 l0_2.length c0_2] 32 (0, 0)) (aG_ BK642.out) hb); replace BK643 := am (blk_below (g := gb643) (o := .cells #[.int .i64 0, .int .i64 0, .slice none 0 0] 32 (0, 0)) (aG_ BK643.out) hb); replace HB := am (below_step ab34_ hb); (try clear hb); (try clear hb2); (try clear hk); (try clear hi); (try clear ho0); obtain ⟨hcz9_0, hcz9_1, hcz9_2, hfz9_0, hfz9_1, hfz9_2⟩ := bcf3_ BK643.out; obtain ⟨Ao10, co10, eo10⟩ := Kd.N_slice HO648.out; subst eo10))
  refine bodyPost_ret (results_cell_row rfl _ _ gb643 32 #[.int .i64 t644, .int .i64 t645, .slice Ao10 t646.length co10] (0, 0) _ rfl (blk_put (blk_put (blk_put BK643.out 0 _ rfl) 1 _ rfl) 2 _ rfl) Try.underlying32 rfl (by kernel_rfl)) rfl ?_
  exact ⟨_, ab11_, by (with_reducible repeat (first | apply Kd.N_alloc | apply Kd.N_drewN | apply Kd.N_drew)); exact Kd.N_mono (Kd.N_far (p := ⟨gb643, 2, none⟩) (Kd.N_far (p := ⟨gb643, 1, none⟩) (Kd.N_far (p := ⟨gb643, 0, none⟩) (Kd.N_mono HO648.out (fun k_ hk => (⟨hk, hk.2.2⟩ : _ ∧ k_ ≠ gb643))) (fun _ hk => hk.2) (.int .i64 t644)) (fun _ hk => hk.2) (.int .i64 t645)) (fun _ hk => hk.2) (.slice Ao10 t646.length co10)) (fun _ hk => hk.1.1), ab34_⟩
 rw [if_neg c2] at H
 have c2b0 : ((l0_2.length : Int) == 0) = false := beq_eq_false_iff_ne.mpr c2
 have c2b1 : ((l0_2.length : Int) != 0) = true := bne_iff_ne.mpr c2
 have c2b2 : ¬ (l0_2 = []) := fun h_ => c2 (by rw [h_]; rfl)
 by_cases c11 : 0 < (l0_2.length : Int)
 ·rw [if_pos c11] at H
  have c11b0 : decide (0 < (l0_2.length : Int)) = true := decide_eq_true c11
  have c11b1 : decide (0 < l0_2.length) = true := decide_eq_true (by omega)
  clear c11
  obtain ⟨⟨t650, t651, t652⟩, A120, H⟩ := bsm H
  (try dsimp only at H)
  have A12 := am A120
  clear A120
  by_cases c13 : 1 < (l0_2.length : Int)
  ·rw [if_pos c13] at H
   have c13b0 : decide (1 < (l0_2.length : Int)) = true := decide_eq_true c13
   have c13b1 : decide (1 < l0_2.length) = true := decide_eq_true (by omega)
   clear c13
   obtain ⟨⟨t657, t658, t659⟩, A140, H⟩ := bsm H
   (try dsimp only at H)
   have A14 := am A140
   clear A140
   have HC15 := am H
   clear H
   go_enter Try.func96, Try.ntmps96
   go_upto_region 5 with (first | ((with_reducible refine gate_dst (N := 1) rfl ?_); refine box_event rfl (N := 1) rfl (cs := #[.int .i64 a0_0, .int .i64 a0_1, .slice A0_2 l0_2.length c0_2]) (t := 32) rn_ ?_; intro gb642 hg w16 hbox hb; have BK642 := am (hbox); have GW642 := am ((by rw [hg]; exact (below_size ab2_) : w.heap.size ≤ gb642)); have GE642 := am ((by rw [hg]; exact (below_size ab2_) : w.heap.size ≤ gb642)); replace HB := am (below_step ab2_ hb); clear hb hbox hg) | ((with_reducible refine gate_dst (N := 2) rfl ?_); refine box_event rfl (N := 2) rfl (cs := #[.int .i64 0, .int .i64 0, .slice none 0 0]) (t := 32) rn_ ?_; intro gb643 hg w17 hbox hb; have BK643 := am (hbox); have GW643 := am ((by rw [hg]; exact (below_size ab56_) : w.heap.size ≤ gb643)); have GE643 := am ((by rw [hg]; exact (below_size ab56_) : w.heap.size ≤ gb643)); replace HB := am (below_step ab56_ hb); have NB642_643 := am ((by rw [hg]; exact Nat.ne_of_lt (blk_lt (g := gb642) (o := .cells #[.int .i64 a0_0, .int .i64 a0_1, .slice A0_2 l0_2.length c0_2] 32 (0, 0)) (aG_ BK642.out)) : gb642 ≠ gb643)); have NB643_642 := am ((by rw [hg]; exact Nat.ne_of_gt (blk_lt (g := gb642) (o := .cells #[.int .i64 a0_0, .int .i64 a0_1, .slice A0_2 l0_2.length c0_2] 32 (0, 0)) (aG_ BK642.out)) : gb643 ≠ gb642)); replace BK642 := am (blk_below (g := gb642) (o := .cells #[.int .i64 a0_0, .int .i64 a0_1, .slice A0_2 l0_2.length c0_2] 32 (0, 0)) (aG_ BK642.out) hb); clear hb hbox hg; have hnb18 := NB642_643.out; have hnc18 := NB643_642.out; obtain ⟨hcz19_0, hcz19_1, hcz19_2, hfz19_0, hfz19_1, hfz19_2⟩ := bcf3_ BK642.out; have p649 : 0 ≤ (0 : Int) := (by omega); have q649 : 0 < (l0_2.length : Int) := of_decide_eq_true asm_; obtain ⟨ad649, A649_2, c649_2, e649, hx649_0, hx649_1, hx649_2, hl649_2, hi649_2⟩ := at_T32 HR0_2.out 0 p649 q649; cases e649; have qi649 : (0 < l0_2.length) = True := eq_true (by omega); (try rw [show ((0 : Int)).toNat = 0 from rfl] at hx649_0); (try rw [show 0 * 3 = 0 from rfl] at hx649_0); (try rw [Addr.add_zero'] at hx649_0); (try rw [show ((0 : Int)).toNat = 0 from rfl] at hx649_1); (try rw [show 0 * 3 = 0 from rfl] at hx649_1); (try rw [Addr.add_zero'] at hx649_1); (try rw [show ((0 : Int)).toNat = 0 from rfl] at hx649_2); (try rw [show 0 * 3 = 0 from rfl] at hx649_2); (try rw [Addr.add_zero'] at hx649_2); replace hx649_0 := (HB.out.cell (World.block_lt_of_cell? w _ hx649_0)).trans hx649_0; replace hx649_1 := (HB.out.cell (World.block_lt_of_cell? w _ hx649_1)).trans hx649_1; replace hx649_2 := (HB.out.cell (World.block_lt_of_cell? w _ hx649_2)).trans hx649_2; have HR649_2 := am hi649_2; have HC649_2 := am hl649_2; clear hi649_2 hl649_2; replace p649 := eq_true p649; replace q649 := eq_true q649) | ((with_reducible refine gate_callee (f := 96) rfl ?_); refine goesL_ (some 20) rfl rfl Try.func96 (by kernel_rfl) rfl #[.agg #[.int .i64 ((rd_T32 l0_2 0).f0), .int .i64 ((rd_T32 l0_2 0).f1), .slice A649_2 ((rd_T32 l0_2 0).f2).length c649_2]] rfl ab1_ ?_; (with_reducible refine (ih k (by omega) ((rd_T32 l0_2 0).f0) ((rd_T32 l0_2 0).f1) _ _ ((rd_T32 l0_2 0).f2) t650 t651 t652 _ (aC_ (Kd.C_below HR649_2.out HB.out)) HC649_2.out A12.out).mono ?_); rintro e w20 ⟨v653, rfl, ho0, hb⟩; refine ⟨_, rfl, ?_⟩; have HO654 := am (Kd.N_lower (Kd.N_mono (ok' := fun k_ => (w.heap.size ≤ k_) ∧ k_ ≠ gb642 ∧ k_ ≠ gb643) ho0 (fun k_ hk_ => ⟨(Nat.le_trans (below_size ab34_) hk_), (Kd.freshB (g := gb642) (o := .cells #[.int .i64 a0_0, .int .i64 a0_1, .slice (some ad649) l0_2.length c0_2] 32 (0, 0)) (aG_ BK642.out) k_ hk_), (Kd.freshB (g := gb643) (o := .cells #[.int .i64 0, .int .i64 0, .slice none 0 0] 32 (0, 0)) (aG_ BK643.out) k_ hk_)⟩)) (below_size ab34_)); replace BK642 := am (blk_below (g := gb642) (o := .cells #[.int .i64 a0_0, .int .i64 a0_1, .slice (some ad649) l0_2.length c0_2] 32 (0, 0)) (aG_ BK642.out) hb); replace BK643 := am (blk_below (g := gb643) (o := .cells #[.int .i64 0, .int .i64 0, .slice none 0 0] 32 (0, 0)) (aG_ BK643.out) hb); replace HB := am (below_step ab34_ hb); (try clear hb); (try clear hb2); (try clear hk); (try clear hi); (try clear ho0)) | ((with_reducible refine gate_dst (N := 3) rfl ?_); refine box_event rfl (N := 3) rfl (cs := #[.int .i64 0, .int .i64 0, .slice none 0 0]) (t := 32) rn_ ?_; intro gb655 hg w21 hbox hb; replace HO654 := am (Kd.N_below (Kd.N_elderB (aN_ HO654.out) gb655 (Nat.le_of_eq hg.symm)) hb); have BK655 := am (hbox); have GW655 := am ((by rw [hg]; exact (below_size ab34_) : w.heap.size ≤ gb655)); have GE655 := am ((by rw [hg]; exact (below_size ab34_) : w.heap.size ≤ gb655)); replace HB := am (below_step ab34_ hb); have NB642_655 := am ((by rw [hg]; exact Nat.ne_of_lt (blk_lt (g := gb642) (o := .cells #[.int .i64 a0_0, .int .i64 a0_1, .slice (some ad649) l0_2.length c0_2] 32 (0, 0)) (aG_ BK642.out)) : gb642 ≠ gb655)); have NB655_642 := am ((by rw [hg]; exact Nat.ne_of_gt (blk_lt (g := gb642) (o := .cells #[.int .i64 a0_0, .int .i64 a0_1, .slice (some ad649) l0_2.length c0_2] 32 (0, 0)) (aG_ BK642.out)) : gb655 ≠ gb642)); replace BK642 := am (blk_below (g := gb642) (o := .cells #[.int .i64 a0_0, .int .i64 a0_1, .slice (some ad649) l0_2.length c0_2] 32 (0, 0)) (aG_ BK642.out) hb); have NB643_655 := am ((by rw [hg]; exact Nat.ne_of_lt (blk_lt (g := gb643) (o := .cells #[.int .i64 0, .int .i64 0, .slice none 0 0] 32 (0, 0)) (aG_ BK643.out)) : gb643 ≠ gb655)); have NB655_643 := am ((by rw [hg]; exact Nat.ne_of_gt (blk_lt (g := gb643) (o := .cells #[.int .i64 0, .int .i64 0, .slice none 0 0] 32 (0, 0)) (aG_ BK643.out)) : gb655 ≠ gb643)); replace BK643 := am (blk_below (g := gb643) (o := .cells #[.int .i64 0, .int .i64 0, .slice none 0 0] 32 (0, 0)) (aG_ BK643.out) hb); clear hb hbox hg; have hnb22 := NB655_642.out; have hnc22 := NB642_655.out; have hnb23 := NB655_643.out; have hnc23 := NB643_655.out; obtain ⟨hcz24_0, hcz24_1, hcz24_2, hfz24_0, hfz24_1, hfz24_2⟩ := bcf3_ BK655.out; obtain ⟨Ao25, co25, eo25⟩ := Kd.N_slice HO654.out; subst eo25; obtain ⟨hcz26_0, hcz26_1, hcz26_2, hfz26_0, hfz26_1, hfz26_2⟩ := bcf3_ BK642.out; have p656 : 0 ≤ (1 : Int) := (by omega); have q656 : 1 < (l0_2.length : Int) := of_decide_eq_true asm_; obtain ⟨ad656, A656_2, c656_2, e656, hx656_0, hx656_1, hx656_2, hl656_2, hi656_2⟩ := at_T32 HR0_2.out 1 p656 q656; obtain rfl : ad649 = ad656 := (by injection e656); (try simp only [show (1 : Int).toNat = 1 from rfl, Nat.reduceMul, Nat.reduceEqDiff, Go.Addr.add, ↓reduceIte] at hx656_0); (try simp only [show (1 : Int).toNat = 1 from rfl, Nat.reduceMul, Nat.reduceEqDiff, Go.Addr.add, ↓reduceIte] at hx656_1); (try simp only [show (1 : Int).toNat = 1 from rfl, Nat.reduceMul, Nat.reduceEqDiff, Go.Addr.add, ↓reduceIte] at hx656_2); have qi656 : (1 < l0_2.length) = True := eq_true (by omega); (try rw [show ((1 : Int)).toNat = 1 from rfl] at hx656_0); (try rw [show 1 * 3 = 3 from rfl] at hx656_0); (try rw [show ((1 : Int)).toNat = 1 from rfl] at hx656_1); (try rw [show 1 * 3 = 3 from rfl] at hx656_1); (try rw [show ((1 : Int)).toNat = 1 from rfl] at hx656_2); (try rw [show 1 * 3 = 3 from rfl] at hx656_2); have hn656_0 : ad649.block ≠ gb655 := Nat.ne_of_lt (Nat.lt_of_lt_of_le (by have := World.block_lt_of_cell? _ _ hx656_0; first | rwa [add_block] at this | exact this) GW655.out); have hn656_1 : ad649.block ≠ gb655 := Nat.ne_of_lt (Nat.lt_of_lt_of_le (by have := World.block_lt_of_cell? _ _ hx656_0; first | rwa [add_block] at this | exact this) GW655.out); have hn656_2 : ad649.block ≠ gb655 := Nat.ne_of_lt (Nat.lt_of_lt_of_le (by have := World.block_lt_of_cell? _ _ hx656_0; first | rwa [add_block] at this | exact this) GW655.out); replace hx656_0 := (HB.out.cell (World.block_lt_of_cell? w _ hx656_0)).trans hx656_0; replace hx656_1 := (HB.out.cell (World.block_lt_of_cell? w _ hx656_1)).trans hx656_1; replace hx656_2 := (HB.out.cell (World.block_lt_of_cell? w _ hx656_2)).trans hx656_2; have HR656_2 := am hi656_2; have HC656_2 := am hl656_2; clear hi656_2 hl656_2; have FR_ := fun {W_ : World} {a_ : Addr} {x_ : Value} (b_ : a_.block ≠ gb655) (h_ : W_.cell? a_ = some x_) => ((cell_far (p := ⟨gb655, 2, none⟩) b_ (.slice Ao25 t652.length co25)).trans ((cell_far (p := ⟨gb655, 1, none⟩) b_ (.int .i64 t651)).trans ((cell_far (p := ⟨gb655, 0, none⟩) b_ (.int .i64 t650)).trans h_))); replace hx656_0 := FR_ (nb_ hn656_0) hx656_0; replace hx656_1 := FR_ (nb_ hn656_0) hx656_1; replace hx656_2 := FR_ (nb_ hn656_0) hx656_2; clear FR_; clear hn656_0 hn656_1 hn656_2; replace p656 := eq_true p656; replace q656 := eq_true q656) | ((with_reducible refine gate_callee (f := 96) rfl ?_); refine goesL_ (some 25) rfl rfl Try.func96 (by kernel_rfl) rfl #[.agg #[.int .i64 ((rd_T32 l0_2 1).f0), .int .i64 ((rd_T32 l0_2 1).f1), .slice A656_2 ((rd_T32 l0_2 1).f2).length c656_2]] rfl ab1_ ?_; (with_reducible refine (ih k (by omega) ((rd_T32 l0_2 1).f0) ((rd_T32 l0_2 1).f1) _ _ ((rd_T32 l0_2 1).f2) t657 t658 t659 _ ?side1 HC656_2.out A14.out).mono ?_); (case side1 => exact Kd.C_below HR656_2.out ab43_); rintro e w27 ⟨v660, rfl, ho0, hb⟩; refine ⟨_, rfl, ?_⟩; have HO661 := am (Kd.N_lower (Kd.N_mono (ok' := fun k_ => (w.heap.size ≤ k_) ∧ some k_ ≠ (.slice Ao25 t652.length co25 : Value).ownBlock ∧ k_ ≠ gb642 ∧ k_ ≠ gb643 ∧ k_ ≠ gb655) ho0 (fun k_ hk_ => ⟨(Nat.le_trans (below_size ab43_) hk_), (Kd.fresh' (Kd.N_lt (by (with_reducible repeat (first | apply Kd.N_alloc | apply Kd.N_drewN | apply Kd.N_drew)); exact (Kd.N_mono (Kd.N_far (p := ⟨gb655, 2, none⟩) (Kd.N_far (p := ⟨gb655, 1, none⟩) (Kd.N_far (p := ⟨gb655, 0, none⟩) (Kd.N_mono HO654.out (fun k_ hk => (⟨hk, hk.2⟩ : _ ∧ k_ ≠ gb655))) (fun _ hk => hk.2) (.int .i64 t650)) (fun _ hk => hk.2) (.int .i64 t651)) (fun _ hk => hk.2) (.slice Ao25 t652.length co25)) (fun _ h_ => h_.1)))) k_ hk_), (Kd.freshB (g := gb642) (o := .cells #[.int .i64 a0_0, .int .i64 a0_1, .slice (some ad649) l0_2.length c0_2] 32 (0, 0)) (blk_far (blk_far (blk_far BK642.out NB642_655.out _) NB642_655.out _) NB642_655.out _) k_ hk_), (Kd.freshB (g := gb643) (o := .cells #[.int .i64 0, .int .i64 0, .slice none 0 0] 32 (0, 0)) (blk_far (blk_far (blk_far BK643.out NB643_655.out _) NB643_655.out _) NB643_655.out _) k_ hk_), (Kd.freshB (g := gb655) (o := .cells #[.int .i64 t650, .int .i64 t651, .slice Ao25 t652.length co25] 32 (0, 0)) (blk_put (blk_put (blk_put BK655.out 0 _ rfl) 1 _ rfl) 2 _ rfl) k_ hk_)⟩)) (below_size ab43_)); replace HO654 := am (Kd.N_elder' (by (with_reducible repeat (first | apply Kd.N_alloc | apply Kd.N_drewN | apply Kd.N_drew)); exact (Kd.N_mono (Kd.N_far (p := ⟨gb655, 2, none⟩) (Kd.N_far (p := ⟨gb655, 1, none⟩) (Kd.N_far (p := ⟨gb655, 0, none⟩) (Kd.N_mono HO654.out (fun k_ hk => (⟨hk, hk.2⟩ : _ ∧ k_ ≠ gb655))) (fun _ hk => hk.2) (.int .i64 t650)) (fun _ hk => hk.2) (.int .i64 t651)) (fun _ hk => hk.2) (.slice Ao25 t652.length co25)) (fun _ h_ => h_.1))) (by first | exact Kd.N_base ho0 | exact Kd.N_base (Kd.R_N ho0)) hb); replace BK642 := am (blk_below (g := gb642) (o := .cells #[.int .i64 a0_0, .int .i64 a0_1, .slice (some ad649) l0_2.length c0_2] 32 (0, 0)) (blk_far (blk_far (blk_far BK642.out NB642_655.out _) NB642_655.out _) NB642_655.out _) hb); replace BK643 := am (blk_below (g := gb643) (o := .cells #[.int .i64 0, .int .i64 0, .slice none 0 0] 32 (0, 0)) (blk_far (blk_far (blk_far BK643.out NB643_655.out _) NB643_655.out _) NB643_655.out _) hb); replace BK655 := am (blk_below (g := gb655) (o := .cells #[.int .i64 t650, .int .i64 t651, .slice Ao25 t652.length co25] 32 (0, 0)) (blk_put (blk_put (blk_put BK655.out 0 _ rfl) 1 _ rfl) 2 _ rfl) hb); replace HB := am (below_step ab43_ hb); (try clear hb); (try clear hb2); (try clear hk); (try clear hi); (try clear ho0)) | ((with_reducible refine gate_dst (N := 4) rfl ?_); refine box_event rfl (N := 4) rfl (cs := #[.int .i64 0, .int .i64 0, .slice none 0 0]) (t := 32) rn_ ?_; intro gb662 hg w28 hbox hb; replace HO654 := am (Kd.N_below (Kd.N_elderB (aN_ HO654.out) gb662 (Nat.le_of_eq hg.symm)) hb); replace HO661 := am (Kd.N_below (Kd.N_elderB (aN_ HO661.out) gb662 (Nat.le_of_eq hg.symm)) hb); have BK662 := am (hbox); have GW662 := am ((by rw [hg]; exact (below_size ab43_) : w.heap.size ≤ gb662)); have GE662 := am ((by rw [hg]; exact (below_size ab43_) : w.heap.size ≤ gb662)); replace HB := am (below_step ab43_ hb); have NB642_662 := am ((by rw [hg]; exact Nat.ne_of_lt (blk_lt (g := gb642) (o := .cells #[.int .i64 a0_0, .int .i64 a0_1, .slice (some ad649) l0_2.length c0_2] 32 (0, 0)) (aG_ BK642.out)) : gb642 ≠ gb662)); have NB662_642 := am ((by rw [hg]; exact Nat.ne_of_gt (blk_lt (g := gb642) (o := .cells #[.int .i64 a0_0, .int .i64 a0_1, .slice (some ad649) l0_2.length c0_2] 32 (0, 0)) (aG_ BK642.out)) : gb662 ≠ gb642)); replace BK642 := am (blk_below (g := gb642) (o := .cells #[.int .i64 a0_0, .int .i64 a0_1, .slice (some ad649) l0_2.length c0_2] 32 (0, 0)) (aG_ BK642.out) hb); have NB643_662 := am ((by rw [hg]; exact Nat.ne_of_lt (blk_lt (g := gb643) (o := .cells #[.int .i64 0, .int .i64 0, .slice none 0 0] 32 (0, 0)) (aG_ BK643.out)) : gb643 ≠ gb662)); have NB662_643 := am ((by rw [hg]; exact Nat.ne_of_gt (blk_lt (g := gb643) (o := .cells #[.int .i64 0, .int .i64 0, .slice none 0 0] 32 (0, 0)) (aG_ BK643.out)) : gb662 ≠ gb643)); replace BK643 := am (blk_below (g := gb643) (o := .cells #[.int .i64 0, .int .i64 0, .slice none 0 0] 32 (0, 0)) (aG_ BK643.out) hb); have NB655_662 := am ((by rw [hg]; exact Nat.ne_of_lt (blk_lt (g := gb655) (o := .cells #[.int .i64 t650, .int .i64 t651, .slice Ao25 t652.length co25] 32 (0, 0)) (aG_ BK655.out)) : gb655 ≠ gb662)); have NB662_655 := am ((by rw [hg]; exact Nat.ne_of_gt (blk_lt (g := gb655) (o := .cells #[.int .i64 t650, .int .i64 t651, .slice Ao25 t652.length co25] 32 (0, 0)) (aG_ BK655.out)) : gb662 ≠ gb655)); replace BK655 := am (blk_below (g := gb655) (o := .cells #[.int .i64 t650, .int .i64 t651, .slice Ao25 t652.length co25] 32 (0, 0)) (aG_ BK655.out) hb); clear hb hbox hg; have hnb29 := NB662_642.out; have hnc29 := NB642_662.out; have hnb30 := NB662_643.out; have hnc30 := NB643_662.out; have hnb31 := NB662_655.out; have hnc31 := NB655_662.out; obtain ⟨hcz32_0, hcz32_1, hcz32_2, hfz32_0, hfz32_1, hfz32_2⟩ := bcf3_ BK662.out; obtain ⟨Ao33, co33, eo33⟩ := Kd.N_slice HO661.out; subst eo33))
   (try simp only [Act.put, List.setIfInBounds_toArray, List.set_cons_zero, List.set_cons_succ])
   go_cut [33] (fun v33 wc => ∃ (kq : Nat) (x33_14 : Bool), v33 = .bool x33_14 ∧ Aside0 (spec_l4Fold.j0 kq x33_14 a0_0 a0_1 l0_2 t650 t651 t652 t657 t658 t659 = some (r1, r2, r3)) ∧ Aside0 (kq ≤ k) ∧ Aside0 (Kd.N k32 32 wc w.heap.size (fun k_ => (w.heap.size ≤ k_) ∧ some k_ ≠ ((.slice Ao33 t659.length co33) : Value).ownBlock ∧ k_ ≠ gb642 ∧ k_ ≠ gb643 ∧ k_ ≠ gb655 ∧ k_ ≠ gb662) (.slice Ao25 t652.length co25) t652) ∧ Aside0 (Kd.N k32 32 wc w.heap.size (fun k_ => (w.heap.size ≤ k_) ∧ some k_ ≠ ((.slice Ao25 t652.length co25) : Value).ownBlock ∧ k_ ≠ gb642 ∧ k_ ≠ gb643 ∧ k_ ≠ gb655 ∧ k_ ≠ gb662) (.slice Ao33 t659.length co33) t659) ∧ Aside0 (wc.heap[gb642]? = some (.cells #[.int .i64 a0_0, .int .i64 a0_1, (.slice (some ad649) l0_2.length c0_2)] 32 (0, 0))) ∧ Aside0 (wc.heap[gb643]? = some (.cells #[.int .i64 0, .int .i64 0, (.slice none 0 0)] 32 (0, 0))) ∧ Aside0 (wc.heap[gb655]? = some (.cells #[.int .i64 t650, .int .i64 t651, (.slice Ao25 t652.length co25)] 32 (0, 0))) ∧ Aside0 (wc.heap[gb662]? = some (.cells #[.int .i64 t657, .int .i64 t658, (.slice Ao33 t659.length co33)] 32 (0, 0))) ∧ Aside0 (Below w.heap.size w wc))
   case first =>
    have H := HC15.out
    clear HC15
    by_cases c34 : t650 = 0
    ·rw [if_pos c34] at H
     have c34b0 : (t650 == 0) = true := beq_iff_eq.mpr c34
     have c34b1 : (t650 != 0) = false := bne_eq_false_iff_eq.mpr c34
     clear c34
     (first | rw [c34b0] | (simp only [i64_w, i32_w]; rw [c34b0]) | skip)
     have H' := am H
     clear H
     have hnb35 := NB655_642.out
     have hnc35 := NB642_655.out
     have hnb36 := NB655_643.out
     have hnc36 := NB643_655.out
     have hnb37 := NB655_662.out
     have hnc37 := NB662_655.out
     obtain ⟨hcz38_0, hcz38_1, hcz38_2, hfz38_0, hfz38_1, hfz38_2⟩ := bcf3_ BK655.out
     have hnb39 := NB662_642.out
     have hnc39 := NB642_662.out
     have hnb40 := NB662_643.out
     have hnc40 := NB643_662.out
     obtain ⟨hcz41_0, hcz41_1, hcz41_2, hfz41_0, hfz41_1, hfz41_2⟩ := bcf3_ BK662.out
     go_wp2
     go_meet
     case rel => exact ⟨_, ((t657 == 0)), sd_, H', ⟨by first | omega | exact Nat.le_refl _⟩, ⟨by (with_reducible repeat (first | apply Kd.N_alloc | apply Kd.N_drewN | apply Kd.N_drew)); exact Kd.N_mono (Kd.N_far (p := ⟨gb662, 2, none⟩) (Kd.N_far (p := ⟨gb662, 1, none⟩) (Kd.N_far (p := ⟨gb662, 0, none⟩) (Kd.N_mono HO654.out (fun k_ hk => (⟨hk, hk.2⟩ : _ ∧ k_ ≠ gb662))) (fun _ hk => hk.2) (.int .i64 t657)) (fun _ hk => hk.2) (.int .i64 t658)) (fun _ hk => hk.2) (.slice Ao33 t659.length co33)) (fun _ hk => ⟨hk.1.1.1.1.1, ⟨hk.1.1.2, ⟨hk.1.1.1.1.2.1, ⟨hk.1.1.1.1.2.2, ⟨hk.1.1.1.2, hk.1.2⟩⟩⟩⟩⟩)⟩, ⟨by (with_reducible repeat (first | apply Kd.N_alloc | apply Kd.N_drewN | apply Kd.N_drew)); exact Kd.N_mono (Kd.N_far (p := ⟨gb662, 2, none⟩) (Kd.N_far (p := ⟨gb662, 1, none⟩) (Kd.N_far (p := ⟨gb662, 0, none⟩) (Kd.N_mono HO661.out (fun k_ hk => (⟨hk, hk.2⟩ : _ ∧ k_ ≠ gb662))) (fun _ hk => hk.2) (.int .i64 t657)) (fun _ hk => hk.2) (.int .i64 t658)) (fun _ hk => hk.2) (.slice Ao33 t659.length co33)) (fun _ hk => ⟨hk.1.1.1, ⟨hk.1.1.2.1, ⟨hk.1.1.2.2.1, ⟨hk.1.1.2.2.2.1, ⟨hk.1.1.2.2.2.2, hk.1.2⟩⟩⟩⟩⟩)⟩, ⟨(blk_far (blk_far (blk_far BK642.out NB642_662.out _) NB642_662.out _) NB642_662.out _)⟩, ⟨(blk_far (blk_far (blk_far BK643.out NB643_662.out _) NB643_662.out _) NB643_662.out _)⟩, ⟨(blk_far (blk_far (blk_far BK655.out NB655_662.out _) NB655_662.out _) NB655_662.out _)⟩, ⟨(blk_put (blk_put (blk_put BK662.out 0 _ rfl) 1 _ rfl) 2 _ rfl)⟩, ⟨ab13_⟩⟩
    rw [if_neg c34] at H
    have c34b0 : (t650 == 0) = false := beq_eq_false_iff_ne.mpr c34
    have c34b1 : (t650 != 0) = true := bne_iff_ne.mpr c34
    (first | rw [c34b0] | (simp only [i64_w, i32_w]; rw [c34b0]) | skip)
    have H' := am H
    clear H
    have hnb42 := NB655_642.out
    have hnc42 := NB642_655.out
    have hnb43 := NB655_643.out
    have hnc43 := NB643_655.out
    have hnb44 := NB655_662.out
    have hnc44 := NB662_655.out
    obtain ⟨hcz45_0, hcz45_1, hcz45_2, hfz45_0, hfz45_1, hfz45_2⟩ := bcf3_ BK655.out
    go_wp2
    go_meet
    case rel => exact ⟨_, (false), sd_, H', ⟨by first | omega | exact Nat.le_refl _⟩, ⟨by (with_reducible repeat (first | apply Kd.N_alloc | apply Kd.N_drewN | apply Kd.N_drew)); exact Kd.N_mono (Kd.N_far (p := ⟨gb662, 2, none⟩) (Kd.N_far (p := ⟨gb662, 1, none⟩) (Kd.N_far (p := ⟨gb662, 0, none⟩) (Kd.N_mono HO654.out (fun k_ hk => (⟨hk, hk.2⟩ : _ ∧ k_ ≠ gb662))) (fun _ hk => hk.2) (.int .i64 t657)) (fun _ hk => hk.2) (.int .i64 t658)) (fun _ hk => hk.2) (.slice Ao33 t659.length co33)) (fun _ hk => ⟨hk.1.1.1.1.1, ⟨hk.1.1.2, ⟨hk.1.1.1.1.2.1, ⟨hk.1.1.1.1.2.2, ⟨hk.1.1.1.2, hk.1.2⟩⟩⟩⟩⟩)⟩, ⟨by (with_reducible repeat (first | apply Kd.N_alloc | apply Kd.N_drewN | apply Kd.N_drew)); exact Kd.N_mono (Kd.N_far (p := ⟨gb662, 2, none⟩) (Kd.N_far (p := ⟨gb662, 1, none⟩) (Kd.N_far (p := ⟨gb662, 0, none⟩) (Kd.N_mono HO661.out (fun k_ hk => (⟨hk, hk.2⟩ : _ ∧ k_ ≠ gb662))) (fun _ hk => hk.2) (.int .i64 t657)) (fun _ hk => hk.2) (.int .i64 t658)) (fun _ hk => hk.2) (.slice Ao33 t659.length co33)) (fun _ hk => ⟨hk.1.1.1, ⟨hk.1.1.2.1, ⟨hk.1.1.2.2.1, ⟨hk.1.1.2.2.2.1, ⟨hk.1.1.2.2.2.2, hk.1.2⟩⟩⟩⟩⟩)⟩, ⟨(blk_far (blk_far (blk_far BK642.out NB642_662.out _) NB642_662.out _) NB642_662.out _)⟩, ⟨(blk_far (blk_far (blk_far BK643.out NB643_662.out _) NB643_662.out _) NB643_662.out _)⟩, ⟨(blk_far (blk_far (blk_far BK655.out NB655_662.out _) NB655_662.out _) NB655_662.out _)⟩, ⟨(blk_put (blk_put (blk_put BK662.out 0 _ rfl) 1 _ rfl) 2 _ rfl)⟩, ⟨ab13_⟩⟩
   case rest =>
    clear HC15
    try clear c2
    try clear c2b0
    try clear c2b1
    try clear c2b2
    try clear c11
    try clear c11b0
    try clear c11b1
    try clear c13
    try clear c13b0
    try clear c13b1
    try clear hcz19_0
    try clear hcz19_1
    try clear hcz19_2
    try clear hcz24_0
    try clear hcz24_1
    try clear hcz24_2
    try clear hcz26_0
    try clear hcz26_1
    try clear hcz26_2
    try clear hcz32_0
    try clear hcz32_1
    try clear hcz32_2
    try clear hfz19_0
    try clear hfz19_1
    try clear hfz19_2
    try clear hfz24_0
    try clear hfz24_1
    try clear hfz24_2
    try clear hfz26_0
    try clear hfz26_1
    try clear hfz26_2
    try clear hfz32_0
    try clear hfz32_1
    try clear hfz32_2
    try clear hx649_0
    try clear hx649_1
    try clear hx649_2
    try clear hx656_0
    try clear hx656_1
    try clear hx656_2
    try clear p649
    try clear p656
    try clear q649
    try clear q656
    obtain ⟨kq, x33_14, rfl, HA, HJ14, HO_656002, HO_663002, BK642, BK643, BK655, BK662, HB⟩ := hcut
    cases kq with
    | zero => exact absurd HA.out (by simp [spec_l4Fold.j0])
    | succ kj14 =>
     have H := HA.out
     clear HA
     simp only [spec_l4Fold.j0] at H
     by_cases c46 : x33_14 = true
     ·subst c46
      rw [if_pos rfl] at H
      obtain ⟨⟨t663, t664⟩, A470, H⟩ := bsm H
      (try dsimp only at H)
      have A47 := am A470
      clear A470
      obtain ⟨t665, A480, H⟩ := bsm H
      (try dsimp only at H)
      have A48 := am A480
      clear A480
      by_cases c49 : t665 = true
      ·subst c49
       rw [if_pos rfl] at H
       obtain ⟨⟨t666, t667, t668⟩, A500, H⟩ := bsm H
       (try dsimp only at H)
       have A50 := am A500
       clear A500
       simp only [Option.some.injEq, Prod.mk.injEq] at H
       obtain ⟨rfl, rfl, rfl⟩ := H
       have hnb51 := NB642_643.out
       have hnc51 := NB643_642.out
       have hnb52 := NB642_655.out
       have hnc52 := NB655_642.out
       have hnb53 := NB642_662.out
       have hnc53 := NB662_642.out
       obtain ⟨hcz54_0, hcz54_1, hcz54_2, hfz54_0, hfz54_1, hfz54_2⟩ := bcf3_ BK642.out
       have hnb55 := NB655_643.out
       have hnc55 := NB643_655.out
       have hnb56 := NB655_662.out
       have hnc56 := NB662_655.out
       obtain ⟨hcz57_0, hcz57_1, hcz57_2, hfz57_0, hfz57_1, hfz57_2⟩ := bcf3_ BK655.out
       have hnb58 := NB662_643.out
       have hnc58 := NB643_662.out
       obtain ⟨hcz59_0, hcz59_1, hcz59_2, hfz59_0, hfz59_1, hfz59_2⟩ := bcf3_ BK662.out
       go_wp2_with (first | ((with_reducible refine gate_callee (f := 112) rfl ?_); refine goesL_ (some 41) rfl rfl Try.func112 (by kernel_rfl) rfl #[.int .i64 a0_0, .int .i64 t651, .int .i64 t658] rfl ab1_ ?_; (with_reducible refine (spec_Apply.calls kj14 a0_0 t651 t658 t663 t664 _ A47.out).mono ?_); rintro e w' ⟨rfl, ⟨nd, rfl⟩⟩; refine ⟨_, rfl, ?_⟩; (try (rw [drewN_self wc]; generalize hq_ : World.drewN wc _ = wc; replace HO_656002 : Aside0 (Kd.N k32 32 wc w.heap.size (fun k_ => (w.heap.size ≤ k_) ∧ some k_ ≠ (.slice Ao33 t659.length co33 : Value).ownBlock ∧ k_ ≠ gb642 ∧ k_ ≠ gb643 ∧ k_ ≠ gb655 ∧ k_ ≠ gb662) (.slice Ao25 t652.length co25) t652) := ⟨by rw [← hq_]; exact (aN_ HO_656002.out)⟩; replace HO_663002 : Aside0 (Kd.N k32 32 wc w.heap.size (fun k_ => (w.heap.size ≤ k_) ∧ some k_ ≠ (.slice Ao25 t652.length co25 : Value).ownBlock ∧ k_ ≠ gb642 ∧ k_ ≠ gb643 ∧ k_ ≠ gb655 ∧ k_ ≠ gb662) (.slice Ao33 t659.length co33) t659) := ⟨by rw [← hq_]; exact (aN_ HO_663002.out)⟩; replace BK642 : Aside0 (wc.heap[gb642]? = some (.cells #[.int .i64 a0_0, .int .i64 a0_1, .slice (some ad649) l0_2.length c0_2] 32 (0, 0))) := ⟨by rw [← hq_]; exact (aG_ BK642.out)⟩; replace BK643 : Aside0 (wc.heap[gb643]? = some (.cells #[.int .i64 0, .int .i64 0, .slice none 0 0] 32 (0, 0))) := ⟨by rw [← hq_]; exact (aG_ BK643.out)⟩; replace BK655 : Aside0 (wc.heap[gb655]? = some (.cells #[.int .i64 t650, .int .i64 t651, .slice Ao25 t652.length co25] 32 (0, 0))) := ⟨by rw [← hq_]; exact (aG_ BK655.out)⟩; replace BK662 : Aside0 (wc.heap[gb662]? = some (.cells #[.int .i64 t657, .int .i64 t658, .slice Ao33 t659.length co33] 32 (0, 0))) := ⟨by rw [← hq_]; exact (aG_ BK662.out)⟩; replace HB : Aside0 (Below w.heap.size w wc) := ⟨by rw [← hq_]; exact ab13_⟩; clear hq_; obtain ⟨hczG13_0, hfzG13_0⟩ := bcf1_ BK642.out; have hczG13_1 : wc.cell? ⟨gb642, 1, none⟩ = some (.int .i64 a0_1) := (blk_cell BK642.out 1).trans rfl; have hfzG13_1 := blk_frozen BK642.out 1; have hczG13_2 : wc.cell? ⟨gb642, 2, none⟩ = some (.slice (some ad649) l0_2.length c0_2) := (blk_cell BK642.out 2).trans rfl; have hfzG13_2 := blk_frozen BK642.out 2; obtain ⟨hczG14_0, hfzG14_0⟩ := bcf1_ BK643.out; have hczG14_1 : wc.cell? ⟨gb643, 1, none⟩ = some (.int .i64 0) := (blk_cell BK643.out 1).trans rfl; have hfzG14_1 := blk_frozen BK643.out 1; have hczG14_2 : wc.cell? ⟨gb643, 2, none⟩ = some (.slice none 0 0) := (blk_cell BK643.out 2).trans rfl; have hfzG14_2 := blk_frozen BK643.out 2; obtain ⟨hczG15_0, hfzG15_0⟩ := bcf1_ BK655.out; have hczG15_1 : wc.cell? ⟨gb655, 1, none⟩ = some (.int .i64 t651) := (blk_cell BK655.out 1).trans rfl; have hfzG15_1 := blk_frozen BK655.out 1; have hczG15_2 : wc.cell? ⟨gb655, 2, none⟩ = some (.slice Ao25 t652.length co25) := (blk_cell BK655.out 2).trans rfl; have hfzG15_2 := blk_frozen BK655.out 2; obtain ⟨hczG16_0, hfzG16_0⟩ := bcf1_ BK662.out; have hczG16_1 : wc.cell? ⟨gb662, 1, none⟩ = some (.int .i64 t658) := (blk_cell BK662.out 1).trans rfl; have hfzG16_1 := blk_frozen BK662.out 1; have hczG16_2 : wc.cell? ⟨gb662, 2, none⟩ = some (.slice Ao33 t659.length co33) := (blk_cell BK662.out 2).trans rfl; have hfzG16_2 := blk_frozen BK662.out 2))) | ((with_reducible refine gate_callee (f := 88) rfl ?_); refine goesL_ (some 45) rfl rfl Try.func88 (by kernel_rfl) rfl #[.int .i64 t663, .int .i64 0, .int .i64 99999] rfl ab1_ ?_; (with_reducible refine (spec_l6In.calls t663 0 99999 true _ A48.out).mono ?_); rintro e w' ⟨rfl, ⟨nd, rfl⟩⟩; refine ⟨_, rfl, ?_⟩; (try (rw [drewN_self wc]; generalize hq_ : World.drewN wc _ = wc; replace HO_656002 : Aside0 (Kd.N k32 32 wc w.heap.size (fun k_ => (w.heap.size ≤ k_) ∧ some k_ ≠ (.slice Ao33 t659.length co33 : Value).ownBlock ∧ k_ ≠ gb642 ∧ k_ ≠ gb643 ∧ k_ ≠ gb655 ∧ k_ ≠ gb662) (.slice Ao25 t652.length co25) t652) := ⟨by rw [← hq_]; exact (aN_ HO_656002.out)⟩; replace HO_663002 : Aside0 (Kd.N k32 32 wc w.heap.size (fun k_ => (w.heap.size ≤ k_) ∧ some k_ ≠ (.slice Ao25 t652.length co25 : Value).ownBlock ∧ k_ ≠ gb642 ∧ k_ ≠ gb643 ∧ k_ ≠ gb655 ∧ k_ ≠ gb662) (.slice Ao33 t659.length co33) t659) := ⟨by rw [← hq_]; exact (aN_ HO_663002.out)⟩; replace BK642 : Aside0 (wc.heap[gb642]? = some (.cells #[.int .i64 a0_0, .int .i64 a0_1, .slice (some ad649) l0_2.length c0_2] 32 (0, 0))) := ⟨by rw [← hq_]; exact (aG_ BK642.out)⟩; replace BK643 : Aside0 (wc.heap[gb643]? = some (.cells #[.int .i64 0, .int .i64 0, .slice none 0 0] 32 (0, 0))) := ⟨by rw [← hq_]; exact (aG_ BK643.out)⟩; replace BK655 : Aside0 (wc.heap[gb655]? = some (.cells #[.int .i64 t650, .int .i64 t651, .slice Ao25 t652.length co25] 32 (0, 0))) := ⟨by rw [← hq_]; exact (aG_ BK655.out)⟩; replace BK662 : Aside0 (wc.heap[gb662]? = some (.cells #[.int .i64 t657, .int .i64 t658, .slice Ao33 t659.length co33] 32 (0, 0))) := ⟨by rw [← hq_]; exact (aG_ BK662.out)⟩; replace HB : Aside0 (Below w.heap.size w wc) := ⟨by rw [← hq_]; exact ab13_⟩; clear hq_; obtain ⟨hczG17_0, hfzG17_0⟩ := bcf1_ BK642.out; have hczG17_1 : wc.cell? ⟨gb642, 1, none⟩ = some (.int .i64 a0_1) := (blk_cell BK642.out 1).trans rfl; have hfzG17_1 := blk_frozen BK642.out 1; have hczG17_2 : wc.cell? ⟨gb642, 2, none⟩ = some (.slice (some ad649) l0_2.length c0_2) := (blk_cell BK642.out 2).trans rfl; have hfzG17_2 := blk_frozen BK642.out 2; obtain ⟨hczG18_0, hfzG18_0⟩ := bcf1_ BK643.out; have hczG18_1 : wc.cell? ⟨gb643, 1, none⟩ = some (.int .i64 0) := (blk_cell BK643.out 1).trans rfl; have hfzG18_1 := blk_frozen BK643.out 1; have hczG18_2 : wc.cell? ⟨gb643, 2, none⟩ = some (.slice none 0 0) := (blk_cell BK643.out 2).trans rfl; have hfzG18_2 := blk_frozen BK643.out 2; obtain ⟨hczG19_0, hfzG19_0⟩ := bcf1_ BK655.out; have hczG19_1 : wc.cell? ⟨gb655, 1, none⟩ = some (.int .i64 t651) := (blk_cell BK655.out 1).trans rfl; have hfzG19_1 := blk_frozen BK655.out 1; have hczG19_2 : wc.cell? ⟨gb655, 2, none⟩ = some (.slice Ao25 t652.length co25) := (blk_cell BK655.out 2).trans rfl; have hfzG19_2 := blk_frozen BK655.out 2; obtain ⟨hczG20_0, hfzG20_0⟩ := bcf1_ BK662.out; have hczG20_1 : wc.cell? ⟨gb662, 1, none⟩ = some (.int .i64 t658) := (blk_cell BK662.out 1).trans rfl; have hfzG20_1 := blk_frozen BK662.out 1; have hczG20_2 : wc.cell? ⟨gb662, 2, none⟩ = some (.slice Ao33 t659.length co33) := (blk_cell BK662.out 2).trans rfl; have hfzG20_2 := blk_frozen BK662.out 2))) | ((with_reducible refine gate_callee (f := 45) rfl ?_); refine goesL_ (some 47) rfl rfl Try.func45 (by kernel_rfl) rfl #[.int .i64 0, .int .i64 t663] rfl ab1_ ?_; (with_reducible refine (spec_l4Leaf.calls 0 t663 t666 t667 t668 _ A50.out).mono ?_); rintro e w60 ⟨v669, rfl, ho0, hb⟩; refine ⟨_, rfl, ?_⟩; have HO670 := am (Kd.N_lower (Kd.N_mono (ok' := fun k_ => (w.heap.size ≤ k_) ∧ some k_ ≠ (.slice Ao25 t652.length co25 : Value).ownBlock ∧ some k_ ≠ (.slice Ao33 t659.length co33 : Value).ownBlock ∧ k_ ≠ gb642 ∧ k_ ≠ gb643 ∧ k_ ≠ gb655 ∧ k_ ≠ gb662) (Kd.R_N (Kd.R_bound ho0)) (fun k_ hk_ => ⟨(Nat.le_trans (below_size ab13_) hk_.2.1), (Kd.fresh' (Kd.N_lt (aN_ HO_656002.out)) k_ hk_.2.1), (Kd.fresh' (Kd.N_lt (aN_ HO_663002.out)) k_ hk_.2.1), (Kd.freshB (g := gb642) (o := .cells #[.int .i64 a0_0, .int .i64 a0_1, .slice (some ad649) l0_2.length c0_2] 32 (0, 0)) (aG_ BK642.out) k_ hk_.2.1), (Kd.freshB (g := gb643) (o := .cells #[.int .i64 0, .int .i64 0, .slice none 0 0] 32 (0, 0)) (aG_ BK643.out) k_ hk_.2.1), (Kd.freshB (g := gb655) (o := .cells #[.int .i64 t650, .int .i64 t651, .slice Ao25 t652.length co25] 32 (0, 0)) (aG_ BK655.out) k_ hk_.2.1), (Kd.freshB (g := gb662) (o := .cells #[.int .i64 t657, .int .i64 t658, .slice Ao33 t659.length co33] 32 (0, 0)) (aG_ BK662.out) k_ hk_.2.1)⟩)) (below_size ab13_)); replace HO_656002 := am (Kd.N_elder' (aN_ HO_656002.out) (by first | exact Kd.N_base ho0 | exact Kd.N_base (Kd.R_N ho0)) hb); replace HO_663002 := am (Kd.N_elder' (aN_ HO_663002.out) (by first | exact Kd.N_base ho0 | exact Kd.N_base (Kd.R_N ho0)) hb); replace BK642 := am (blk_below (g := gb642) (o := .cells #[.int .i64 a0_0, .int .i64 a0_1, .slice (some ad649) l0_2.length c0_2] 32 (0, 0)) (aG_ BK642.out) hb); replace BK643 := am (blk_below (g := gb643) (o := .cells #[.int .i64 0, .int .i64 0, .slice none 0 0] 32 (0, 0)) (aG_ BK643.out) hb); replace BK655 := am (blk_below (g := gb655) (o := .cells #[.int .i64 t650, .int .i64 t651, .slice Ao25 t652.length co25] 32 (0, 0)) (aG_ BK655.out) hb); replace BK662 := am (blk_below (g := gb662) (o := .cells #[.int .i64 t657, .int .i64 t658, .slice Ao33 t659.length co33] 32 (0, 0)) (aG_ BK662.out) hb); replace HB := am (below_step ab13_ hb); (try clear hb); (try clear hb2); (try clear hk); (try clear hi); (try clear ho0); obtain ⟨hcz61_0, hcz61_1, hcz61_2, hfz61_0, hfz61_1, hfz61_2⟩ := bcf3_ BK643.out; obtain ⟨Ao62, co62, eo62⟩ := Kd.N_slice HO670.out; subst eo62))
       refine bodyPost_ret (results_cell_row rfl _ _ gb643 32 #[.int .i64 t666, .int .i64 t667, .slice Ao62 t668.length co62] (0, 0) _ rfl (blk_put (blk_put (blk_put BK643.out 0 _ rfl) 1 _ rfl) 2 _ rfl) Try.underlying32 rfl (by kernel_rfl)) rfl ?_
       exact ⟨_, ab11_, by (with_reducible repeat (first | apply Kd.N_alloc | apply Kd.N_drewN | apply Kd.N_drew)); exact Kd.N_mono (Kd.N_far (p := ⟨gb643, 2, none⟩) (Kd.N_far (p := ⟨gb643, 1, none⟩) (Kd.N_far (p := ⟨gb643, 0, none⟩) (Kd.N_mono HO670.out (fun k_ hk => (⟨hk, hk.2.2.2.2.1⟩ : _ ∧ k_ ≠ gb643))) (fun _ hk => hk.2) (.int .i64 t666)) (fun _ hk => hk.2) (.int .i64 t667)) (fun _ hk => hk.2) (.slice Ao62 t668.length co62)) (fun _ hk => hk.1.1), ab13_⟩
      replace c49 := Bool.eq_false_iff.mpr c49
      subst c49
      rw [if_neg (show ¬ (false = true) by decide)] at H
      obtain ⟨⟨t671, t672, t673⟩, A630, H⟩ := bsm H
      (try dsimp only at H)
      have A63 := am A630
      clear A630
      simp only [Option.some.injEq, Prod.mk.injEq] at H
      obtain ⟨rfl, rfl, rfl⟩ := H
      have hnb64 := NB642_643.out
      have hnc64 := NB643_642.out
      have hnb65 := NB642_655.out
      have hnc65 := NB655_642.out
      have hnb66 := NB642_662.out
      have hnc66 := NB662_642.out
      obtain ⟨hcz67_0, hcz67_1, hcz67_2, hfz67_0, hfz67_1, hfz67_2⟩ := bcf3_ BK642.out
      have hnb68 := NB655_643.out
      have hnc68 := NB643_655.out
      have hnb69 := NB655_662.out
      have hnc69 := NB662_655.out
      obtain ⟨hcz70_0, hcz70_1, hcz70_2, hfz70_0, hfz70_1, hfz70_2⟩ := bcf3_ BK655.out
      have hnb71 := NB662_643.out
      have hnc71 := NB643_662.out
      obtain ⟨hcz72_0, hcz72_1, hcz72_2, hfz72_0, hfz72_1, hfz72_2⟩ := bcf3_ BK662.out
      go_wp2_with (first | ((with_reducible refine gate_callee (f := 112) rfl ?_); refine goesL_ (some 41) rfl rfl Try.func112 (by kernel_rfl) rfl #[.int .i64 a0_0, .int .i64 t651, .int .i64 t658] rfl ab1_ ?_; (with_reducible refine (spec_Apply.calls kj14 a0_0 t651 t658 t663 t664 _ A47.out).mono ?_); rintro e w' ⟨rfl, ⟨nd, rfl⟩⟩; refine ⟨_, rfl, ?_⟩; (try (rw [drewN_self wc]; generalize hq_ : World.drewN wc _ = wc; replace HO_656002 : Aside0 (Kd.N k32 32 wc w.heap.size (fun k_ => (w.heap.size ≤ k_) ∧ some k_ ≠ (.slice Ao33 t659.length co33 : Value).ownBlock ∧ k_ ≠ gb642 ∧ k_ ≠ gb643 ∧ k_ ≠ gb655 ∧ k_ ≠ gb662) (.slice Ao25 t652.length co25) t652) := ⟨by rw [← hq_]; exact (aN_ HO_656002.out)⟩; replace HO_663002 : Aside0 (Kd.N k32 32 wc w.heap.size (fun k_ => (w.heap.size ≤ k_) ∧ some k_ ≠ (.slice Ao25 t652.length co25 : Value).ownBlock ∧ k_ ≠ gb642 ∧ k_ ≠ gb643 ∧ k_ ≠ gb655 ∧ k_ ≠ gb662) (.slice Ao33 t659.length co33) t659) := ⟨by rw [← hq_]; exact (aN_ HO_663002.out)⟩; replace BK642 : Aside0 (wc.heap[gb642]? = some (.cells #[.int .i64 a0_0, .int .i64 a0_1, .slice (some ad649) l0_2.length c0_2] 32 (0, 0))) := ⟨by rw [← hq_]; exact (aG_ BK642.out)⟩; replace BK643 : Aside0 (wc.heap[gb643]? = some (.cells #[.int .i64 0, .int .i64 0, .slice none 0 0] 32 (0, 0))) := ⟨by rw [← hq_]; exact (aG_ BK643.out)⟩; replace BK655 : Aside0 (wc.heap[gb655]? = some (.cells #[.int .i64 t650, .int .i64 t651, .slice Ao25 t652.length co25] 32 (0, 0))) := ⟨by rw [← hq_]; exact (aG_ BK655.out)⟩; replace BK662 : Aside0 (wc.heap[gb662]? = some (.cells #[.int .i64 t657, .int .i64 t658, .slice Ao33 t659.length co33] 32 (0, 0))) := ⟨by rw [← hq_]; exact (aG_ BK662.out)⟩; replace HB : Aside0 (Below w.heap.size w wc) := ⟨by rw [← hq_]; exact ab13_⟩; clear hq_; obtain ⟨hczG21_0, hfzG21_0⟩ := bcf1_ BK642.out; have hczG21_1 : wc.cell? ⟨gb642, 1, none⟩ = some (.int .i64 a0_1) := (blk_cell BK642.out 1).trans rfl; have hfzG21_1 := blk_frozen BK642.out 1; have hczG21_2 : wc.cell? ⟨gb642, 2, none⟩ = some (.slice (some ad649) l0_2.length c0_2) := (blk_cell BK642.out 2).trans rfl; have hfzG21_2 := blk_frozen BK642.out 2; obtain ⟨hczG22_0, hfzG22_0⟩ := bcf1_ BK643.out; have hczG22_1 : wc.cell? ⟨gb643, 1, none⟩ = some (.int .i64 0) := (blk_cell BK643.out 1).trans rfl; have hfzG22_1 := blk_frozen BK643.out 1; have hczG22_2 : wc.cell? ⟨gb643, 2, none⟩ = some (.slice none 0 0) := (blk_cell BK643.out 2).trans rfl; have hfzG22_2 := blk_frozen BK643.out 2; obtain ⟨hczG23_0, hfzG23_0⟩ := bcf1_ BK655.out; have hczG23_1 : wc.cell? ⟨gb655, 1, none⟩ = some (.int .i64 t651) := (blk_cell BK655.out 1).trans rfl; have hfzG23_1 := blk_frozen BK655.out 1; have hczG23_2 : wc.cell? ⟨gb655, 2, none⟩ = some (.slice Ao25 t652.length co25) := (blk_cell BK655.out 2).trans rfl; have hfzG23_2 := blk_frozen BK655.out 2; obtain ⟨hczG24_0, hfzG24_0⟩ := bcf1_ BK662.out; have hczG24_1 : wc.cell? ⟨gb662, 1, none⟩ = some (.int .i64 t658) := (blk_cell BK662.out 1).trans rfl; have hfzG24_1 := blk_frozen BK662.out 1; have hczG24_2 : wc.cell? ⟨gb662, 2, none⟩ = some (.slice Ao33 t659.length co33) := (blk_cell BK662.out 2).trans rfl; have hfzG24_2 := blk_frozen BK662.out 2))) | ((with_reducible refine gate_callee (f := 88) rfl ?_); refine goesL_ (some 45) rfl rfl Try.func88 (by kernel_rfl) rfl #[.int .i64 t663, .int .i64 0, .int .i64 99999] rfl ab1_ ?_; (with_reducible refine (spec_l6In.calls t663 0 99999 false _ A48.out).mono ?_); rintro e w' ⟨rfl, ⟨nd, rfl⟩⟩; refine ⟨_, rfl, ?_⟩; (try (rw [drewN_self wc]; generalize hq_ : World.drewN wc _ = wc; replace HO_656002 : Aside0 (Kd.N k32 32 wc w.heap.size (fun k_ => (w.heap.size ≤ k_) ∧ some k_ ≠ (.slice Ao33 t659.length co33 : Value).ownBlock ∧ k_ ≠ gb642 ∧ k_ ≠ gb643 ∧ k_ ≠ gb655 ∧ k_ ≠ gb662) (.slice Ao25 t652.length co25) t652) := ⟨by rw [← hq_]; exact (aN_ HO_656002.out)⟩; replace HO_663002 : Aside0 (Kd.N k32 32 wc w.heap.size (fun k_ => (w.heap.size ≤ k_) ∧ some k_ ≠ (.slice Ao25 t652.length co25 : Value).ownBlock ∧ k_ ≠ gb642 ∧ k_ ≠ gb643 ∧ k_ ≠ gb655 ∧ k_ ≠ gb662) (.slice Ao33 t659.length co33) t659) := ⟨by rw [← hq_]; exact (aN_ HO_663002.out)⟩; replace BK642 : Aside0 (wc.heap[gb642]? = some (.cells #[.int .i64 a0_0, .int .i64 a0_1, .slice (some ad649) l0_2.length c0_2] 32 (0, 0))) := ⟨by rw [← hq_]; exact (aG_ BK642.out)⟩; replace BK643 : Aside0 (wc.heap[gb643]? = some (.cells #[.int .i64 0, .int .i64 0, .slice none 0 0] 32 (0, 0))) := ⟨by rw [← hq_]; exact (aG_ BK643.out)⟩; replace BK655 : Aside0 (wc.heap[gb655]? = some (.cells #[.int .i64 t650, .int .i64 t651, .slice Ao25 t652.length co25] 32 (0, 0))) := ⟨by rw [← hq_]; exact (aG_ BK655.out)⟩; replace BK662 : Aside0 (wc.heap[gb662]? = some (.cells #[.int .i64 t657, .int .i64 t658, .slice Ao33 t659.length co33] 32 (0, 0))) := ⟨by rw [← hq_]; exact (aG_ BK662.out)⟩; replace HB : Aside0 (Below w.heap.size w wc) := ⟨by rw [← hq_]; exact ab13_⟩; clear hq_; obtain ⟨hczG25_0, hfzG25_0⟩ := bcf1_ BK642.out; have hczG25_1 : wc.cell? ⟨gb642, 1, none⟩ = some (.int .i64 a0_1) := (blk_cell BK642.out 1).trans rfl; have hfzG25_1 := blk_frozen BK642.out 1; have hczG25_2 : wc.cell? ⟨gb642, 2, none⟩ = some (.slice (some ad649) l0_2.length c0_2) := (blk_cell BK642.out 2).trans rfl; have hfzG25_2 := blk_frozen BK642.out 2; obtain ⟨hczG26_0, hfzG26_0⟩ := bcf1_ BK643.out; have hczG26_1 : wc.cell? ⟨gb643, 1, none⟩ = some (.int .i64 0) := (blk_cell BK643.out 1).trans rfl; have hfzG26_1 := blk_frozen BK643.out 1; have hczG26_2 : wc.cell? ⟨gb643, 2, none⟩ = some (.slice none 0 0) := (blk_cell BK643.out 2).trans rfl; have hfzG26_2 := blk_frozen BK643.out 2; obtain ⟨hczG27_0, hfzG27_0⟩ := bcf1_ BK655.out; have hczG27_1 : wc.cell? ⟨gb655, 1, none⟩ = some (.int .i64 t651) := (blk_cell BK655.out 1).trans rfl; have hfzG27_1 := blk_frozen BK655.out 1; have hczG27_2 : wc.cell? ⟨gb655, 2, none⟩ = some (.slice Ao25 t652.length co25) := (blk_cell BK655.out 2).trans rfl; have hfzG27_2 := blk_frozen BK655.out 2; obtain ⟨hczG28_0, hfzG28_0⟩ := bcf1_ BK662.out; have hczG28_1 : wc.cell? ⟨gb662, 1, none⟩ = some (.int .i64 t658) := (blk_cell BK662.out 1).trans rfl; have hfzG28_1 := blk_frozen BK662.out 1; have hczG28_2 : wc.cell? ⟨gb662, 2, none⟩ = some (.slice Ao33 t659.length co33) := (blk_cell BK662.out 2).trans rfl; have hfzG28_2 := blk_frozen BK662.out 2))) | ((with_reducible refine gate_callee (f := 43) rfl ?_); refine goesL_ (some 52) rfl rfl Try.func43 (by kernel_rfl) rfl #[.int .i64 a0_0, .agg #[.int .i64 t650, .int .i64 t651, .slice Ao25 t652.length co25], .agg #[.int .i64 t657, .int .i64 t658, .slice Ao33 t659.length co33]] rfl ab1_ ?_; (with_reducible refine (spec_l4Both.calls a0_0 t650 t651 (fun k_ => ((w.heap.size ≤ k_) ∧ (some k_ ≠ (.slice Ao33 t659.length co33 : Value).ownBlock ∧ (k_ ≠ gb642 ∧ (k_ ≠ gb643 ∧ (k_ ≠ gb655 ∧ k_ ≠ gb662)))))) _ _ t652 t657 t658 (fun k_ => ((w.heap.size ≤ k_) ∧ (some k_ ≠ (.slice Ao25 t652.length co25 : Value).ownBlock ∧ (k_ ≠ gb642 ∧ (k_ ≠ gb643 ∧ (k_ ≠ gb655 ∧ k_ ≠ gb662)))))) _ _ t659 t671 t672 t673 _ ?side1 ?side2 A63.out).mono ?_); (case side1 => exact Kd.N_V (HO_656002.out)); (case side2 => exact Kd.N_V (HO_663002.out)); rintro e w73 ⟨v674, rfl, ho0, hb⟩; refine ⟨_, rfl, ?_⟩; replace HO_656002 := am (Kd.N_elder' (aN_ HO_656002.out) (by first | exact Kd.N_base ho0 | exact Kd.N_base (Kd.R_N ho0)) hb); replace HO_663002 := am (Kd.N_elder' (aN_ HO_663002.out) (by first | exact Kd.N_base ho0 | exact Kd.N_base (Kd.R_N ho0)) hb); have HO675 := am (Kd.N_lower (Kd.N_mono (ok' := fun k_ => (w.heap.size ≤ k_) ∧ k_ ≠ gb642 ∧ k_ ≠ gb643 ∧ k_ ≠ gb655 ∧ k_ ≠ gb662) ho0 (fun k_ hk_ => ⟨Or.elim hk_ (fun hs_ => Or.elim hs_ (fun hs_ => hs_.1) (fun hs_ => hs_.1)) (fun hn_ => (Nat.le_trans (below_size ab13_) hn_)), Or.elim hk_ (fun hs_ => Or.elim hs_ (fun hs_ => hs_.2.2.1) (fun hs_ => hs_.2.2.1)) (fun hn_ => (Kd.freshB (g := gb642) (o := .cells #[.int .i64 a0_0, .int .i64 a0_1, .slice (some ad649) l0_2.length c0_2] 32 (0, 0)) (aG_ BK642.out) k_ hn_)), Or.elim hk_ (fun hs_ => Or.elim hs_ (fun hs_ => hs_.2.2.2.1) (fun hs_ => hs_.2.2.2.1)) (fun hn_ => (Kd.freshB (g := gb643) (o := .cells #[.int .i64 0, .int .i64 0, .slice none 0 0] 32 (0, 0)) (aG_ BK643.out) k_ hn_)), Or.elim hk_ (fun hs_ => Or.elim hs_ (fun hs_ => hs_.2.2.2.2.1) (fun hs_ => hs_.2.2.2.2.1)) (fun hn_ => (Kd.freshB (g := gb655) (o := .cells #[.int .i64 t650, .int .i64 t651, .slice Ao25 t652.length co25] 32 (0, 0)) (aG_ BK655.out) k_ hn_)), Or.elim hk_ (fun hs_ => Or.elim hs_ (fun hs_ => hs_.2.2.2.2.2) (fun hs_ => hs_.2.2.2.2.2)) (fun hn_ => (Kd.freshB (g := gb662) (o := .cells #[.int .i64 t657, .int .i64 t658, .slice Ao33 t659.length co33] 32 (0, 0)) (aG_ BK662.out) k_ hn_))⟩)) (below_size ab13_)); replace BK642 := am (blk_below (g := gb642) (o := .cells #[.int .i64 a0_0, .int .i64 a0_1, .slice (some ad649) l0_2.length c0_2] 32 (0, 0)) (aG_ BK642.out) hb); replace BK643 := am (blk_below (g := gb643) (o := .cells #[.int .i64 0, .int .i64 0, .slice none 0 0] 32 (0, 0)) (aG_ BK643.out) hb); replace BK655 := am (blk_below (g := gb655) (o := .cells #[.int .i64 t650, .int .i64 t651, .slice Ao25 t652.length co25] 32 (0, 0)) (aG_ BK655.out) hb); replace BK662 := am (blk_below (g := gb662) (o := .cells #[.int .i64 t657, .int .i64 t658, .slice Ao33 t659.length co33] 32 (0, 0)) (aG_ BK662.out) hb); replace HB := am (below_step ab13_ hb); (try clear hb); (try clear hb2); (try clear hk); (try clear hi); (try clear ho0); obtain ⟨hcz74_0, hcz74_1, hcz74_2, hfz74_0, hfz74_1, hfz74_2⟩ := bcf3_ BK643.out; obtain ⟨Ao75, co75, eo75⟩ := Kd.N_slice HO675.out; subst eo75))
      refine bodyPost_ret (results_cell_row rfl _ _ gb643 32 #[.int .i64 t671, .int .i64 t672, .slice Ao75 t673.length co75] (0, 0) _ rfl (blk_put (blk_put (blk_put BK643.out 0 _ rfl) 1 _ rfl) 2 _ rfl) Try.underlying32 rfl (by kernel_rfl)) rfl ?_
      exact ⟨_, ab11_, by (with_reducible repeat (first | apply Kd.N_alloc | apply Kd.N_drewN | apply Kd.N_drew)); exact Kd.N_mono (Kd.N_far (p := ⟨gb643, 2, none⟩) (Kd.N_far (p := ⟨gb643, 1, none⟩) (Kd.N_far (p := ⟨gb643, 0, none⟩) (Kd.N_mono HO675.out (fun k_ hk => (⟨hk, hk.2.2.1⟩ : _ ∧ k_ ≠ gb643))) (fun _ hk => hk.2) (.int .i64 t671)) (fun _ hk => hk.2) (.int .i64 t672)) (fun _ hk => hk.2) (.slice Ao75 t673.length co75)) (fun _ hk => hk.1.1), ab13_⟩
     replace c46 := Bool.eq_false_iff.mpr c46
     subst c46
     rw [if_neg (show ¬ (false = true) by decide)] at H
     obtain ⟨⟨t676, t677, t678⟩, A760, H⟩ := bsm H
     (try dsimp only at H)
     have A76 := am A760
     clear A760
     simp only [Option.some.injEq, Prod.mk.injEq] at H
     obtain ⟨rfl, rfl, rfl⟩ := H
     have hnb77 := NB642_643.out
     have hnc77 := NB643_642.out
     have hnb78 := NB642_655.out
     have hnc78 := NB655_642.out
     have hnb79 := NB642_662.out
     have hnc79 := NB662_642.out
     obtain ⟨hcz80_0, hcz80_1, hcz80_2, hfz80_0, hfz80_1, hfz80_2⟩ := bcf3_ BK642.out
     have hnb81 := NB655_643.out
     have hnc81 := NB643_655.out
     have hnb82 := NB655_662.out
     have hnc82 := NB662_655.out
     obtain ⟨hcz83_0, hcz83_1, hcz83_2, hfz83_0, hfz83_1, hfz83_2⟩ := bcf3_ BK655.out
     have hnb84 := NB662_643.out
     have hnc84 := NB643_662.out
     obtain ⟨hcz85_0, hcz85_1, hcz85_2, hfz85_0, hfz85_1, hfz85_2⟩ := bcf3_ BK662.out
     go_wp2_with (first | ((with_reducible refine gate_callee (f := 43) rfl ?_); refine goesL_ (some 52) rfl rfl Try.func43 (by kernel_rfl) rfl #[.int .i64 a0_0, .agg #[.int .i64 t650, .int .i64 t651, .slice Ao25 t652.length co25], .agg #[.int .i64 t657, .int .i64 t658, .slice Ao33 t659.length co33]] rfl ab1_ ?_; (with_reducible refine (spec_l4Both.calls a0_0 t650 t651 (fun k_ => ((w.heap.size ≤ k_) ∧ (some k_ ≠ (.slice Ao33 t659.length co33 : Value).ownBlock ∧ (k_ ≠ gb642 ∧ (k_ ≠ gb643 ∧ (k_ ≠ gb655 ∧ k_ ≠ gb662)))))) _ _ t652 t657 t658 (fun k_ => ((w.heap.size ≤ k_) ∧ (some k_ ≠ (.slice Ao25 t652.length co25 : Value).ownBlock ∧ (k_ ≠ gb642 ∧ (k_ ≠ gb643 ∧ (k_ ≠ gb655 ∧ k_ ≠ gb662)))))) _ _ t659 t676 t677 t678 _ ?side1 ?side2 A76.out).mono ?_); (case side1 => exact Kd.N_V (HO_656002.out)); (case side2 => exact Kd.N_V (HO_663002.out)); rintro e w86 ⟨v679, rfl, ho0, hb⟩; refine ⟨_, rfl, ?_⟩; replace HO_656002 := am (Kd.N_elder' (aN_ HO_656002.out) (by first | exact Kd.N_base ho0 | exact Kd.N_base (Kd.R_N ho0)) hb); replace HO_663002 := am (Kd.N_elder' (aN_ HO_663002.out) (by first | exact Kd.N_base ho0 | exact Kd.N_base (Kd.R_N ho0)) hb); have HO680 := am (Kd.N_lower (Kd.N_mono (ok' := fun k_ => (w.heap.size ≤ k_) ∧ k_ ≠ gb642 ∧ k_ ≠ gb643 ∧ k_ ≠ gb655 ∧ k_ ≠ gb662) ho0 (fun k_ hk_ => ⟨Or.elim hk_ (fun hs_ => Or.elim hs_ (fun hs_ => hs_.1) (fun hs_ => hs_.1)) (fun hn_ => (Nat.le_trans (below_size ab13_) hn_)), Or.elim hk_ (fun hs_ => Or.elim hs_ (fun hs_ => hs_.2.2.1) (fun hs_ => hs_.2.2.1)) (fun hn_ => (Kd.freshB (g := gb642) (o := .cells #[.int .i64 a0_0, .int .i64 a0_1, .slice (some ad649) l0_2.length c0_2] 32 (0, 0)) (aG_ BK642.out) k_ hn_)), Or.elim hk_ (fun hs_ => Or.elim hs_ (fun hs_ => hs_.2.2.2.1) (fun hs_ => hs_.2.2.2.1)) (fun hn_ => (Kd.freshB (g := gb643) (o := .cells #[.int .i64 0, .int .i64 0, .slice none 0 0] 32 (0, 0)) (aG_ BK643.out) k_ hn_)), Or.elim hk_ (fun hs_ => Or.elim hs_ (fun hs_ => hs_.2.2.2.2.1) (fun hs_ => hs_.2.2.2.2.1)) (fun hn_ => (Kd.freshB (g := gb655) (o := .cells #[.int .i64 t650, .int .i64 t651, .slice Ao25 t652.length co25] 32 (0, 0)) (aG_ BK655.out) k_ hn_)), Or.elim hk_ (fun hs_ => Or.elim hs_ (fun hs_ => hs_.2.2.2.2.2) (fun hs_ => hs_.2.2.2.2.2)) (fun hn_ => (Kd.freshB (g := gb662) (o := .cells #[.int .i64 t657, .int .i64 t658, .slice Ao33 t659.length co33] 32 (0, 0)) (aG_ BK662.out) k_ hn_))⟩)) (below_size ab13_)); replace BK642 := am (blk_below (g := gb642) (o := .cells #[.int .i64 a0_0, .int .i64 a0_1, .slice (some ad649) l0_2.length c0_2] 32 (0, 0)) (aG_ BK642.out) hb); replace BK643 := am (blk_below (g := gb643) (o := .cells #[.int .i64 0, .int .i64 0, .slice none 0 0] 32 (0, 0)) (aG_ BK643.out) hb); replace BK655 := am (blk_below (g := gb655) (o := .cells #[.int .i64 t650, .int .i64 t651, .slice Ao25 t652.length co25] 32 (0, 0)) (aG_ BK655.out) hb); replace BK662 := am (blk_below (g := gb662) (o := .cells #[.int .i64 t657, .int .i64 t658, .slice Ao33 t659.length co33] 32 (0, 0)) (aG_ BK662.out) hb); replace HB := am (below_step ab13_ hb); (try clear hb); (try clear hb2); (try clear hk); (try clear hi); (try clear ho0); obtain ⟨hcz87_0, hcz87_1, hcz87_2, hfz87_0, hfz87_1, hfz87_2⟩ := bcf3_ BK643.out; obtain ⟨Ao88, co88, eo88⟩ := Kd.N_slice HO680.out; subst eo88))
     refine bodyPost_ret (results_cell_row rfl _ _ gb643 32 #[.int .i64 t676, .int .i64 t677, .slice Ao88 t678.length co88] (0, 0) _ rfl (blk_put (blk_put (blk_put BK643.out 0 _ rfl) 1 _ rfl) 2 _ rfl) Try.underlying32 rfl (by kernel_rfl)) rfl ?_
     exact ⟨_, ab11_, by (with_reducible repeat (first | apply Kd.N_alloc | apply Kd.N_drewN | apply Kd.N_drew)); exact Kd.N_mono (Kd.N_far (p := ⟨gb643, 2, none⟩) (Kd.N_far (p := ⟨gb643, 1, none⟩) (Kd.N_far (p := ⟨gb643, 0, none⟩) (Kd.N_mono HO680.out (fun k_ hk => (⟨hk, hk.2.2.1⟩ : _ ∧ k_ ≠ gb643))) (fun _ hk => hk.2) (.int .i64 t676)) (fun _ hk => hk.2) (.int .i64 t677)) (fun _ hk => hk.2) (.slice Ao88 t678.length co88)) (fun _ hk => hk.1.1), ab13_⟩
  rw [if_neg c13] at H
  exact absurd H (by simp)
 rw [if_neg c11] at H
 exact absurd H (by simp)
theorem spec_l11FoldAll.mono_all : ∀ k, (∀ a b c, LeO (spec_l11FoldAll.l0 k a b c) (spec_l11FoldAll.l0 (k + 1) a b c)) ∧ (∀ a, LeO (spec_l11FoldAll.f k a) (spec_l11FoldAll.f (k + 1) a)) ∧ (∀ s, LeO (spec_l11FoldOne.f k s) (spec_l11FoldOne.f (k + 1) s))
 | 0 => ⟨fun _ _ _ r h => by simp [spec_l11FoldAll.l0] at h, fun _ r h => by simp [spec_l11FoldAll.f] at h, fun _ r h => by simp [spec_l11FoldOne.f] at h⟩
 | k + 1 => by
  obtain ⟨i0, i1, i2⟩ := spec_l11FoldAll.mono_all k
  refine ⟨fun a b c => ?_, fun a => ?_, fun s => ?_⟩
  ·unfold spec_l11FoldAll.l0
   refine LeO.ite (LeO.ite (LeO.bind (i2 _) (fun _ => LeO.ite (i0 _ _ _) (LeO.none _))) (LeO.none _)) (LeO.refl _)
  ·unfold spec_l11FoldAll.f
   exact i0 _ _ _
  ·unfold spec_l11FoldOne.f
   exact LeO.bind (spec_l4Fold.mono _ _ _ _) (fun _ => LeO.bind (i1 _) (fun _ => LeO.bind (i1 _) (fun _ => LeO.refl _)))
theorem spec_l11FoldAll.mono : ∀ a k, LeO (spec_l11FoldAll.f k a) (spec_l11FoldAll.f (k + 1) a) := fun a k => (spec_l11FoldAll.mono_all k).2.1 a
abbrev spec_l11FoldAll.CallsAt (k : Nat) : Prop := ∀ (A0 : Option Addr) (c0 : Nat) (l0 : List S35) (r : List S35) (w : World) (hr0 : Kd.C k35 w A0 l0.length l0) (hc0 : l0.length ≤ c0) (h : spec_l11FoldAll.f k l0 = some r),
  Calls Try.prog 48 #[.slice A0 l0.length c0] w fun e w' => ∃ v0_ : Value, e = .returned v0_ ∧ Kd.N k35 35 w' w.heap.size (fun k_ => (w.heap.size ≤ k_)) v0_ r ∧ Below w.heap.size w w'
abbrev spec_l11FoldOne.CallsAt (k : Nat) : Prop := ∀ (x : S35) (A5 : Option Addr) (c5 : Nat) (A6 : Option Addr) (c6 : Nat) (A7 : Option Addr) (c7 : Nat) (r : List S35) (w : World) (h5 : Kd.C k32 w A5 x.f3.f2.length x.f3.f2) (l5 : x.f3.f2.length ≤ c5) (h6 : Kd.C k35 w A6 x.f4.length x.f4) (l6 : x.f4.length ≤ c6) (h7 : Kd.C k35 w A7 x.f5.length x.f5) (l7 : x.f5.length ≤ c7) (h : spec_l11FoldOne.f k x = some r),
  Calls Try.prog 81 #[.agg #[.int .i64 x.f0, .int .i64 x.f1, .int .i64 x.f2, .int .i64 x.f3.f0, .int .i64 x.f3.f1, .slice A5 x.f3.f2.length c5, .slice A6 x.f4.length c6, .slice A7 x.f5.length c7]] w fun e w' => ∃ v0_ : Value, e = .returned v0_ ∧ Kd.N k35 35 w' w.heap.size (fun k_ => (w.heap.size ≤ k_)) v0_ r ∧ Below w.heap.size w w'
theorem spec_l11FoldOne.step (k : Nat) (ihA : ∀ m, m < k → spec_l11FoldAll.CallsAt m) : spec_l11FoldOne.CallsAt k := by
  intro x A5 c5 A6 c6 A7 c7 r w h5 q5 h6 q6 h7 q7 h
  cases k with
  | zero => exact absurd h (by simp [spec_l11FoldOne.f])
  | succ k =>
  simp only [spec_l11FoldOne.f] at h
  replace h := Option.bind_eq_some_iff.mp h
  obtain ⟨⟨op, n, la⟩, he, h⟩ := h
  replace h := Option.bind_eq_some_iff.mp h
  obtain ⟨lb, hb6, h⟩ := h
  replace h := Option.bind_eq_some_iff.mp h
  obtain ⟨le, hb7, h⟩ := h
  obtain rfl := Option.some.inj h
  have H5 := am h5
  have H6 := am h6
  have H7 := am h7
  have L5 := am q5
  have L6 := am q6
  have L7 := am q7
  have HE := am he
  have HB6 := am hb6
  have HB7 := am hb7
  clear h h5 h6 h7 q5 q6 q7 he hb6 hb7
  go_enter Try.func81, Try.ntmps81
  go_upto_region 1 with (first | ((with_reducible refine gate_dst (N := 1) rfl ?_); refine box_event (N := 1) rfl rfl (cs := #[(.int .i64 x.f0), (.int .i64 x.f1), (.int .i64 x.f2), (.int .i64 x.f3.f0), (.int .i64 x.f3.f1), (.slice A5 x.f3.f2.length c5), (.slice A6 x.f4.length c6), (.slice A7 x.f5.length c7)]) (t := 35) rn_ ?_; intro gb hg w1 hbox hb; have GE := am (hg : _ = _); have X := am hbox; have BW := am hb; clear hbox hb hg) | fail)
  have GW : Aside0 (w.heap.size ≤ gb) := ⟨Nat.le_of_eq GE.out.symm⟩
  have GL := am (blk_lt X.out)
  have p3 : w1.cell? ⟨gb, 3, none⟩ = some (.int .i64 x.f3.f0) := blk_cell X.out 3
  have p4 : w1.cell? ⟨gb, 4, none⟩ = some (.int .i64 x.f3.f1) := blk_cell X.out 4
  have p5 : w1.cell? ⟨gb, 5, none⟩ = some (.slice A5 x.f3.f2.length c5) := blk_cell X.out 5
  go_upto_region 2 with (first | ((with_reducible refine gate_callee (f := 96) rfl ?_); refine goesL_ (some 6) rfl rfl Try.func96 (by kernel_rfl) rfl #[.agg #[(.int .i64 x.f3.f0), (.int .i64 x.f3.f1), (.slice A5 x.f3.f2.length c5)]] rfl (by (try simp only [List.map_toArray, List.map_cons, List.map_nil]); first | done | rfl) ?_; (with_reducible refine (spec_l4Fold.calls k _ _ A5 c5 _ op n la _ (Kd.C_below H5.out BW.out) L5.out HE.out).mono ?_); rintro e w2 ⟨v5, rfl, hn, hb⟩; refine ⟨_, rfl, ?_⟩; obtain ⟨B5, d5, rfl⟩ := Kd.N_slice hn; have N5 := am (Kd.N_mono (ok' := fun q => w.heap.size ≤ q ∧ q ≠ gb) (Kd.N_lower hn BW.out.size) (fun q hq => ⟨Nat.le_trans BW.out.size hq, fun e => by have := GL.out; omega⟩)); have X2 := am (blk_below X.out hb); have B2 := am (below_step BW.out hb); clear hn hb p3 p4 p5 X BW; have p3 : w2.cell? ⟨gb, 3, none⟩ = some (.int .i64 x.f3.f0) := blk_cell X2.out 3; have p4 : w2.cell? ⟨gb, 4, none⟩ = some (.int .i64 x.f3.f1) := blk_cell X2.out 4; have p5 : w2.cell? ⟨gb, 5, none⟩ = some (.slice A5 x.f3.f2.length c5) := blk_cell X2.out 5; have f3 := blk_frozen X2.out 3; have f4 := blk_frozen X2.out 4; have f5 := blk_frozen X2.out 5) | fail)
  have X := am (blk_put (cs' := #[(.int .i64 x.f0), (.int .i64 x.f1), (.int .i64 x.f2), (.int .i64 op), (.int .i64 n), (.slice B5 la.length d5), (.slice A6 x.f4.length c6), (.slice A7 x.f5.length c7)]) (blk_put (cs' := #[(.int .i64 x.f0), (.int .i64 x.f1), (.int .i64 x.f2), (.int .i64 op), (.int .i64 n), (.slice A5 x.f3.f2.length c5), (.slice A6 x.f4.length c6), (.slice A7 x.f5.length c7)]) (blk_put (cs' := #[(.int .i64 x.f0), (.int .i64 x.f1), (.int .i64 x.f2), (.int .i64 op), (.int .i64 x.f3.f1), (.slice A5 x.f3.f2.length c5), (.slice A6 x.f4.length c6), (.slice A7 x.f5.length c7)]) X2.out 3 (.int .i64 op) rfl) 4 (.int .i64 n) rfl) 5 (.slice B5 la.length d5) rfl)
  have BW := am (below_set (j := 5) (v := (.slice B5 la.length d5)) (below_set (j := 4) (v := (.int .i64 n)) (below_set (j := 3) (v := (.int .i64 op)) B2.out GW.out) GW.out) GW.out)
  have N5_ := am (Kd.N_far (p := ⟨gb, 5, none⟩) (Kd.N_far (p := ⟨gb, 4, none⟩) (Kd.N_far (p := ⟨gb, 3, none⟩) N5.out (fun _ hq => hq.2) (.int .i64 op)) (fun _ hq => hq.2) (.int .i64 n)) (fun _ hq => hq.2) (.slice B5 la.length d5))
  clear p3 p4 p5 f3 f4 f5 X2 B2 N5
  generalize (((w2.setCell ⟨gb, 3, none⟩ (.int .i64 op)).setCell ⟨gb, 4, none⟩ (.int .i64 n)).setCell ⟨gb, 5, none⟩ (.slice B5 la.length d5)) = w3 at X BW N5_ ⊢
  have N5 := N5_
  clear N5_
  have p6 : w3.cell? ⟨gb, 6, none⟩ = some (.slice A6 x.f4.length c6) := blk_cell X.out 6
  go_upto_region 3 with (first | ((with_reducible refine gate_callee (f := 48) rfl ?_); refine goesL_ (some 10) rfl rfl Try.func48 (by kernel_rfl) rfl #[.slice A6 x.f4.length c6] rfl (by (try simp only [List.map_toArray, List.map_cons, List.map_nil]); first | done | rfl) ?_; (with_reducible refine (ihA k (Nat.lt_succ_self k) A6 c6 x.f4 lb _ (Kd.C_below H6.out BW.out) L6.out HB6.out).mono ?_); rintro e w4 ⟨v5, rfl, hn, hb⟩; refine ⟨_, rfl, ?_⟩; obtain ⟨B6, d6, rfl⟩ := Kd.N_slice hn; have GL2 := blk_lt X.out; have hle := BW.out.size; have N6 := am (Kd.N_mono (ok' := fun q => w.heap.size ≤ q ∧ q ≠ gb) (Kd.N_lower hn hle) (fun q hq => ⟨Nat.le_trans hle hq, fun e => by omega⟩)); have tN5 := am (Kd.N_below N5.out hb); have X2 := am (blk_below X.out hb); have B2 := am (below_step BW.out hb); clear hn hb hle GL2 p6 X BW N5; have N5 := tN5; clear tN5; have p6 : w4.cell? ⟨gb, 6, none⟩ = some (.slice A6 x.f4.length c6) := blk_cell X2.out 6; have f6 := blk_frozen X2.out 6) | fail)
  have X := am (blk_put (cs' := #[(.int .i64 x.f0), (.int .i64 x.f1), (.int .i64 x.f2), (.int .i64 op), (.int .i64 n), (.slice B5 la.length d5), (.slice B6 lb.length d6), (.slice A7 x.f5.length c7)]) X2.out 6 (.slice B6 lb.length d6) rfl)
  have BW := am (below_set (j := 6) (v := (.slice B6 lb.length d6)) B2.out GW.out)
  have tN5 := am (Kd.N_far (p := ⟨gb, 6, none⟩) N5.out (fun _ hq => hq.2) (.slice B6 lb.length d6))
  have tN6 := am (Kd.N_far (p := ⟨gb, 6, none⟩) N6.out (fun _ hq => hq.2) (.slice B6 lb.length d6))
  clear p6 f6 X2 B2 N5 N6
  generalize (w4.setCell ⟨gb, 6, none⟩ (.slice B6 lb.length d6)) = w5 at X BW tN5 tN6 ⊢
  have N5 := tN5
  have N6 := tN6
  clear tN5 tN6
  have p7 : w5.cell? ⟨gb, 7, none⟩ = some (.slice A7 x.f5.length c7) := blk_cell X.out 7
  go_upto_region 4 with (first | ((with_reducible refine gate_callee (f := 48) rfl ?_); refine goesL_ (some 14) rfl rfl Try.func48 (by kernel_rfl) rfl #[.slice A7 x.f5.length c7] rfl (by (try simp only [List.map_toArray, List.map_cons, List.map_nil]); first | done | rfl) ?_; (with_reducible refine (ihA k (Nat.lt_succ_self k) A7 c7 x.f5 le _ (Kd.C_below H7.out BW.out) L7.out HB7.out).mono ?_); rintro e w6 ⟨v5, rfl, hn, hb⟩; refine ⟨_, rfl, ?_⟩; obtain ⟨B7, d7, rfl⟩ := Kd.N_slice hn; have GL2 := blk_lt X.out; have hle := BW.out.size; have N7 := am (Kd.N_mono (ok' := fun q => w.heap.size ≤ q ∧ q ≠ gb) (Kd.N_lower hn hle) (fun q hq => ⟨Nat.le_trans hle hq, fun e => by omega⟩)); have tN5 := am (Kd.N_below N5.out hb); have tN6 := am (Kd.N_below N6.out hb); have X2 := am (blk_below X.out hb); have B2 := am (below_step BW.out hb); clear hn hb hle GL2 p7 X BW N5 N6; have N5 := tN5; clear tN5; have N6 := tN6; clear tN6; have p7 : w6.cell? ⟨gb, 7, none⟩ = some (.slice A7 x.f5.length c7) := blk_cell X2.out 7; have f7 := blk_frozen X2.out 7) | fail)
  have X := am (blk_put (cs' := #[(.int .i64 x.f0), (.int .i64 x.f1), (.int .i64 x.f2), (.int .i64 op), (.int .i64 n), (.slice B5 la.length d5), (.slice B6 lb.length d6), (.slice B7 le.length d7)]) X2.out 7 (.slice B7 le.length d7) rfl)
  have BW := am (below_set (j := 7) (v := (.slice B7 le.length d7)) B2.out GW.out)
  have tN5 := am (Kd.N_far (p := ⟨gb, 7, none⟩) N5.out (fun _ hq => hq.2) (.slice B7 le.length d7))
  have tN6 := am (Kd.N_far (p := ⟨gb, 7, none⟩) N6.out (fun _ hq => hq.2) (.slice B7 le.length d7))
  have tN7 := am (Kd.N_far (p := ⟨gb, 7, none⟩) N7.out (fun _ hq => hq.2) (.slice B7 le.length d7))
  clear p7 f7 X2 B2 N5 N6 N7
  generalize (w6.setCell ⟨gb, 7, none⟩ (.slice B7 le.length d7)) = w7 at X BW tN5 tN6 tN7 ⊢
  have N5 := tN5
  have N6 := tN6
  have N7 := tN7
  clear tN5 tN6 tN7
  have p0 : w7.cell? ⟨gb, 0, none⟩ = some (.int .i64 x.f0) := blk_cell X.out 0
  have p1 : w7.cell? ⟨gb, 1, none⟩ = some (.int .i64 x.f1) := blk_cell X.out 1
  have p2 : w7.cell? ⟨gb, 2, none⟩ = some (.int .i64 x.f2) := blk_cell X.out 2
  have p3 : w7.cell? ⟨gb, 3, none⟩ = some (.int .i64 op) := blk_cell X.out 3
  have p4 : w7.cell? ⟨gb, 4, none⟩ = some (.int .i64 n) := blk_cell X.out 4
  have p5 : w7.cell? ⟨gb, 5, none⟩ = some (.slice B5 la.length d5) := blk_cell X.out 5
  have p6 : w7.cell? ⟨gb, 6, none⟩ = some (.slice B6 lb.length d6) := blk_cell X.out 6
  have p7 : w7.cell? ⟨gb, 7, none⟩ = some (.slice B7 le.length d7) := blk_cell X.out 7
  have HX := X
  clear X GE GL GW HE HB6 HB7 H5 H6 H7 L5 L6 L7 ihA
  by_cases k2 : x.f0 = 2 <;> by_cases k3 : x.f0 = 3 <;> by_cases k0 : op = 0 <;> by_cases kn : n = 0
  all_goals first
    | (exact absurd (k2.symm.trans k3) (by decide))
    | ((first | have e2 : (x.f0 == 2) = true := beq_iff_eq.mpr k2 | have e2 : (x.f0 == 2) = false := beq_eq_false_iff_ne.mpr k2)
       (first | have e3 : (x.f0 == 3) = true := beq_iff_eq.mpr k3 | have e3 : (x.f0 == 3) = false := beq_eq_false_iff_ne.mpr k3)
       (first | have e0 : (op == 0) = true := beq_iff_eq.mpr k0 | have e0 : (op == 0) = false := beq_eq_false_iff_ne.mpr k0)
       (first | have en : (n == 0) = true := beq_iff_eq.mpr kn | have en : (n == 0) = false := beq_eq_false_iff_ne.mpr kn)
       (first | have em : (n != 0) = true := bne_iff_ne.mpr kn | have em : (n != 0) = false := bne_eq_false_iff_eq.mpr kn)
       clear k2 k3 k0 kn
       go_wp2_with (first | ((with_reducible refine gate_dst (N := 54) rfl ?_); refine Kd.N_lit k35 w7.heap.size 35 rfl (N' := 54) rfl (w0 := w7) (xs := ([] : List S35)) (inner := []) (ok := fun q => w7.heap.size ≤ q) (okp := fun _ => False) ?hr (Reps.none _ _) (fun _ hq => hq.elim) (Nat.le_refl _) (Below.refl _ _) (Nat.le_refl _) (by simp) ?_; (case hr => first | (go_simp; done) | (go_simp; rfl)); intro v9 w8 hn hb _ _; obtain ⟨B9, d9, rfl⟩ := Kd.N_slice hn; have N9 := am hn; have B9_ := am hb; clear hn hb) | ((with_reducible refine gate_dst (N := 56) rfl ?_); refine Kd.N_lit k35 w7.heap.size 35 rfl (N' := 56) rfl (w0 := w7) (xs := [(⟨x.f0, x.f1, x.f2, ⟨op, n, la⟩, lb, le⟩ : S35)]) (inner := [(.int .i64 x.f0), (.int .i64 x.f1), (.int .i64 x.f2), (.int .i64 op), (.int .i64 n), (.slice B5 la.length d5), (.slice B6 lb.length d6), (.slice B7 le.length d7)]) (ok := fun q => w.heap.size ≤ q) (okp := fun q => w.heap.size ≤ q ∧ q ≠ gb) ?hr (Reps.c8 (show Kd.FK k35 _ _ (⟨x.f0, x.f1, x.f2, ⟨op, n, la⟩, lb, le⟩ : S35) [(.int .i64 x.f0), (.int .i64 x.f1), (.int .i64 x.f2), (.int .i64 op), (.int .i64 n), (.slice B5 la.length d5), (.slice B6 lb.length d6), (.slice B7 le.length d7)] from k35_mkF _ _ (⟨x.f0, x.f1, x.f2, ⟨op, n, la⟩, lb, le⟩ : S35) (Kd.N_reads' N5.out).2.1 (Kd.N_F N5.out) (Kd.N_reads' N6.out).2.1 (Kd.N_F N6.out) (Kd.N_reads' N7.out).2.1 (Kd.N_F N7.out)) (Reps.none _ _)) (fun _ hq => hq.1) BW.out.size (Below.refl _ _) (Nat.le_refl _) (by simp) ?_; (case hr => first | (go_simp; done) | (go_simp; rfl)); intro v9 w8 hn hb _ _; obtain ⟨B9, d9, rfl⟩ := Kd.N_slice hn; have N9 := am hn; have B9_ := am hb; clear hn hb) | fail)
       go_ret
       first
       | exact ⟨_, rfl, by (simp only [pickF, e2, e3, e0, en, em, Bool.true_and, Bool.and_true, Bool.false_and, Bool.and_false, if_true, if_false, Bool.false_eq_true]); exact (Kd.N_mono N6.out (fun _ hq => hq.1)), BW.out⟩
       | exact ⟨_, rfl, by (simp only [pickF, e2, e3, e0, en, em, Bool.true_and, Bool.and_true, Bool.false_and, Bool.and_false, if_true, if_false, Bool.false_eq_true]); exact (Kd.N_mono N7.out (fun _ hq => hq.1)), BW.out⟩
       | exact ⟨_, rfl, by (simp only [pickF, e2, e3, e0, en, em, Bool.true_and, Bool.and_true, Bool.false_and, Bool.and_false, if_true, if_false, Bool.false_eq_true]); exact (Kd.N_mono (Kd.N_lower N9.out BW.out.size) (fun _ hq => Nat.le_trans BW.out.size hq)), (below_step BW.out B9_.out)⟩
       | exact ⟨_, rfl, by (simp only [pickF, e2, e3, e0, en, em, Bool.true_and, Bool.and_true, Bool.false_and, Bool.and_false, if_true, if_false, Bool.false_eq_true]); exact (Kd.N_lower N9.out BW.out.size), (below_step BW.out B9_.out)⟩)
theorem spec_l11FoldAll.step (k : Nat) (ihT : ∀ m, m < k → spec_l11FoldOne.CallsAt m) : spec_l11FoldAll.CallsAt k := by
 intro A0 c0 l0 r w hr0 hc0 h
 cases k with
 | zero => exact absurd h (by simp [spec_l11FoldAll.f])
 | succ k =>
 simp only [spec_l11FoldAll.f] at h
 have HR0 := am hr0
 have HC0 := am hc0
 have H' := am h
 clear hr0 hc0 h
 go_enter Try.func48, Try.ntmps48
 go_wp2_with (first | ((with_reducible refine gate_dst (N := 5) rfl ?_); refine Kd.N_lit k35 w.heap.size 35 rfl (N' := 5) rfl (w0 := w) (xs := ([] : List S35)) (inner := []) (ok := fun q => w.heap.size ≤ q) (okp := fun _ => False) ?hr (Reps.none _ _) (fun _ hq => hq.elim) (Nat.le_refl _) (Below.refl _ _) (Nat.le_refl _) (by simp) ?_; (case hr => first | (go_simp; done) | (go_simp; rfl)); intro v3 w4 hn hb hg_ hnew_; clear hg_ hnew_; have HO := am hn; have HB := am hb; clear hn hb) | fail)
 go_loopg [3, 4] k (fun kq v3 v4 w' => ∃ (x3 : List S35) (x4 : Int), v4 = .int .i64 x4 ∧ Aside0 (spec_l11FoldAll.l0 kq l0 x3 x4 = some r) ∧ Aside0 (kq ≤ k) ∧ Aside0 (Kd.N k35 35 w' w.heap.size (fun q => w.heap.size ≤ q) v3 x3) ∧ Aside0 (Below w.heap.size w w'))
 case atStart => exact ⟨_, 0, rfl, H', ⟨Nat.le_refl _⟩, HO, HB⟩
 case round =>
  clear H'
  (try clear HO HB)
  obtain ⟨x3, x4, rfl, HA, HK1, HO, HB⟩ := hrel
  obtain ⟨B3, d3, rfl⟩ := Kd.N_slice HO.out
  cases gk with
  | zero => exact absurd HA.out (by simp [spec_l11FoldAll.l0])
  | succ k1 =>
   have H := HA.out
   clear HA
   simp only [spec_l11FoldAll.l0] at H
   by_cases c6 : x4 < (l0.length : Int)
   ·rw [if_pos c6] at H
    by_cases c7 : 0 ≤ x4
    ·rw [if_pos c7] at H
     obtain ⟨y, hs, H⟩ := bsm H
     by_cases c9 : x3.length + y.length < 1256584717458
     ·rw [if_pos c9] at H
      have HS := am hs
      have H' := am H
      clear hs H
      obtain ⟨ad, A5, c5, A6, d6, A7, d7, e0, x0, x1, x2, y3, y4, y5, y6, y7, l5, g5, l6, g6, l7, g7⟩ := at_T35 HR0.out x4 c7 c6
      cases e0
      replace x0 := (HB.out.cell (World.block_lt_of_cell? w _ x0)).trans x0
      replace x1 := (HB.out.cell (World.block_lt_of_cell? w _ x1)).trans x1
      replace x2 := (HB.out.cell (World.block_lt_of_cell? w _ x2)).trans x2
      replace y3 := (HB.out.cell (World.block_lt_of_cell? w _ y3)).trans y3
      replace y4 := (HB.out.cell (World.block_lt_of_cell? w _ y4)).trans y4
      replace y5 := (HB.out.cell (World.block_lt_of_cell? w _ y5)).trans y5
      replace y6 := (HB.out.cell (World.block_lt_of_cell? w _ y6)).trans y6
      replace y7 := (HB.out.cell (World.block_lt_of_cell? w _ y7)).trans y7
      have G5 := am (Kd.C_below g5 HB.out)
      have G6 := am (Kd.C_below g6 HB.out)
      have G7 := am (Kd.C_below g7 HB.out)
      have L5 := am l5
      have L6 := am l6
      have L7 := am l7
      have C9 := am c9
      have c6b : decide (x4 < (l0.length : Int)) = true := decide_eq_true c6
      have q0 := eq_true c7
      have q1 := eq_true c6
      clear g5 g6 g7 l5 l6 l7 c6 c7 c9
      go_wp2_with (first | ((with_reducible refine gate_callee (f := 81) rfl ?_); refine goesL_ (some 17) rfl rfl Try.func81 (by kernel_rfl) rfl #[.agg #[(.int .i64 (rd_T35 l0 x4).f0), (.int .i64 (rd_T35 l0 x4).f1), (.int .i64 (rd_T35 l0 x4).f2), (.int .i64 (rd_T35 l0 x4).f3.f0), (.int .i64 (rd_T35 l0 x4).f3.f1), (.slice A5 (rd_T35 l0 x4).f3.f2.length c5), (.slice A6 (rd_T35 l0 x4).f4.length d6), (.slice A7 (rd_T35 l0 x4).f5.length d7)]] rfl (by (try simp only [List.map_toArray, List.map_cons, List.map_nil]); first | done | rfl) ?_; (with_reducible refine (ihT k1 (by have := HK1.out; omega) (rd_T35 l0 x4) A5 c5 A6 d6 A7 d7 y _ G5.out L5.out G6.out L6.out G7.out L7.out HS.out).mono ?_); rintro e w11 ⟨v17, rfl, hn, hb⟩; refine ⟨_, rfl, ?_⟩; obtain ⟨B17, d17, rfl⟩ := Kd.N_slice hn; have N17 := am hn; have OL := am (Kd.N_lt HO.out); have OE := am (Kd.N_below HO.out hb); have B11 := am (below_step HB.out hb); have SZ := am HB.out.size; clear hn hb HO HB) | ((with_reducible refine gate_dst (N := 18) rfl ?_); refine Kd.N_append_rows k35 (w0 := w) w.heap.size rfl (.tmp 12) (.tmp 17) 23 35 (.agg #[(.int .i64 0), (.int .i64 0), (.int .i64 0), (.int .i64 0), (.int .i64 0), (.slice none 0 0), (.slice none 0 0), (.slice none 0 0)]) 112 rfl Try.underlying23 info35 rfl (by decide) (by omega) (.slice B3 x3.length d3) x3 y B17 y.length d17 (fun q => w.heap.size ≤ q) _ rfl rfl OE.out (Kd.N_F N17.out) ?aK ?aF B11.out B11.out.size ?aL ?_; (case aK => exact fun q hq => ⟨Nat.le_trans SZ.out hq, fun e => by have := OL.out q e.symm; omega⟩); (case aF => exact fun q hq => Nat.le_trans B11.out.size hq); (case aL => (have := C9.out; omega)); intro v18 w12 hn hb hg_ hat_; clear hg_ hat_; have HO := am hn; have HB := am hb; clear hn hb OE OL B11 N17 SZ) | fail)
      go_roundg k1
      case measure => have := HK1.out; omega
      case rel => exact ⟨_, wrap64 (x4 + 1), sd_, H', ⟨by have := HK1.out; omega⟩, HO, HB⟩
     rw [if_neg c9] at H
     exact absurd H (by simp)
    rw [if_neg c7] at H
    exact absurd H (by simp)
   rw [if_neg c6] at H
   have c6b : decide (x4 < (l0.length : Int)) = false := decide_eq_false c6
   clear c6
   obtain rfl := Option.some.inj H
   go_wp2
   go_ret
   exact ⟨_, rfl, HO.out, HB.out⟩
theorem spec_l11FoldAll.calls_all (k : Nat) : spec_l11FoldAll.CallsAt k ∧ spec_l11FoldOne.CallsAt k := by
 induction k using Nat.strongRecOn with
 | _ k ih => exact ⟨spec_l11FoldAll.step k (fun m hm => (ih m hm).2), spec_l11FoldOne.step k (fun m hm => (ih m hm).1)⟩
theorem spec_l11FoldAll.calls (k : Nat) : spec_l11FoldAll.CallsAt k := (spec_l11FoldAll.calls_all k).1
end Go.Proofs.Ytodhbeeibagiaaa.PA


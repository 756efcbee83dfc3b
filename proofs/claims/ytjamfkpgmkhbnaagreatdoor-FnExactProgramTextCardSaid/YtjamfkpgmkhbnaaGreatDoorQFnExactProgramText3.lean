/- Part 4. -/
import Derived.Test.YtjamfkpgmkhbnaaGreatDoorQFnExactProgramText2
set_option maxHeartbeats 8000000
set_option maxRecDepth 100000
namespace Go.Proofs.YtjamfkpgmkhbnaaGreatDoor.PA
open Go.RowKit Go.Proofs.YtjamfkpgmkhbnaaGreatDoorW.PrintWords Go.Proofs.YtjamfkpgmkhbnaaGreatDoorW.PrintLast Go.Proofs.YtjamfkpgmkhbnaaGreatDoorW.PrintMore
attribute [local go_sem] max2_int min2_int max_two min_two max_three min_three max_four min_four
set_option linter.unusedVariables false
set_option linter.unusedSimpArgs false
theorem spec_l11Blocks.step (k : Nat) (ih_spec_l11Ok : ∀ m, m < k → spec_l11Ok.CallsAt m) (ih_spec_l11Blocks : ∀ m, m < k → spec_l11Blocks.CallsAt m) : spec_l11Blocks.CallsAt k := by
 intro A0 c0 l0 a1 r w hr0 hc0 h
 cases k with
 | zero => exact absurd h (by simp [spec_l11Blocks.f])
 | succ k =>
 simp only [spec_l11Blocks.f] at h
 have hu58 := Tryz.underlying58
 have HR0 := am hr0
 have HC0 := am hc0
 clear hr0 hc0
 have HB := am (Below.refl w.heap.size w)
 have H : (spec_l11Blocks.l0 k l0 a1 0) = some r := h
 clear h
 have H' := am H
 clear H
 go_enter Tryz.func70, Tryz.ntmps70
 go_wp2
 go_loopg [5] k (fun kq v5 w' => ∃ (x5_1 : Int), v5 = .int .i64 x5_1 ∧ Aside0 (spec_l11Blocks.l0 kq l0 a1 x5_1 = some r) ∧ Aside0 (kq ≤ k) ∧ Aside0 (Below w.heap.size w w'))
 case atStart => exact ⟨(0), sd_, H', ⟨Nat.le_refl _⟩, ⟨ab2_⟩⟩
 case round =>
  clear H'
  obtain ⟨x5_1, rfl, HA, HK1, HB⟩ := hrel
  cases gk with
  | zero => exact absurd HA.out (by simp [spec_l11Blocks.l0])
  | succ k1 =>
   have H := HA.out
   clear HA
   simp only [spec_l11Blocks.l0] at H
   by_cases c3 : x5_1 < (l0.length : Int)
   ·rw [if_pos c3] at H
    have c3b0 : decide (x5_1 < (l0.length : Int)) = true := decide_eq_true c3
    clear c3
    by_cases c4 : 0 ≤ x5_1
    ·rw [if_pos c4] at H
     have c4b0 : decide (0 ≤ x5_1) = true := decide_eq_true c4
     clear c4
     obtain ⟨t20, A5, H⟩ := bsa H
     (try dsimp only at H)
     by_cases c6 : t20 = true
     ·subst c6
      rw [if_pos rfl] at H
      have H' := am H
      clear H
      have p21 : 0 ≤ (x5_1 : Int) := of_decide_eq_true asm_
      have q21 : x5_1 < (l0.length : Int) := of_decide_eq_true asm_
      obtain ⟨ad21, A21_5, c21_5, A21_6, c21_6, A21_7, c21_7, e21, hx21_0, hx21_1, hx21_2, hx21_3, hx21_4, hx21_5, hx21_6, hx21_7, hl21_5, hi21_5, hl21_6, hi21_6, hl21_7, hi21_7⟩ := at_T58 HR0.out x5_1 p21 q21
      cases e21
      replace hx21_0 := (HB.out.cell (World.block_lt_of_cell? w _ hx21_0)).trans hx21_0
      replace hx21_1 := (HB.out.cell (World.block_lt_of_cell? w _ hx21_1)).trans hx21_1
      replace hx21_2 := (HB.out.cell (World.block_lt_of_cell? w _ hx21_2)).trans hx21_2
      replace hx21_3 := (HB.out.cell (World.block_lt_of_cell? w _ hx21_3)).trans hx21_3
      replace hx21_4 := (HB.out.cell (World.block_lt_of_cell? w _ hx21_4)).trans hx21_4
      replace hx21_5 := (HB.out.cell (World.block_lt_of_cell? w _ hx21_5)).trans hx21_5
      replace hx21_6 := (HB.out.cell (World.block_lt_of_cell? w _ hx21_6)).trans hx21_6
      replace hx21_7 := (HB.out.cell (World.block_lt_of_cell? w _ hx21_7)).trans hx21_7
      have HR21_5 := am hi21_5
      have HC21_5 := am hl21_5
      clear hi21_5 hl21_5
      have HR21_6 := am hi21_6
      have HC21_6 := am hl21_6
      clear hi21_6 hl21_6
      have HR21_7 := am hi21_7
      have HC21_7 := am hl21_7
      clear hi21_7 hl21_7
      replace p21 := eq_true p21
      replace q21 := eq_true q21
      go_wp2_with (first | ((with_reducible refine gate_callee (f := 93) rfl ?_); refine gl_ 17 Tryz.func93 #[.agg #[.int .i64 ((rd_T58 l0 x5_1).f0), .int .i64 ((rd_T58 l0 x5_1).f1), .int .i64 ((rd_T58 l0 x5_1).f2), .int .i64 ((rd_T58 l0 x5_1).f3.f0), .int .i64 ((rd_T58 l0 x5_1).f3.f1), .slice A21_5 ((rd_T58 l0 x5_1).f3.f2).length c21_5, .slice A21_6 ((rd_T58 l0 x5_1).f4).length c21_6, .slice A21_7 ((rd_T58 l0 x5_1).f5).length c21_7], .int .i64 a1] ?_; (with_reducible refine (ih_spec_l11Ok k1 (by have := HK1.out; omega) ((rd_T58 l0 x5_1).f0) ((rd_T58 l0 x5_1).f1) ((rd_T58 l0 x5_1).f2) ((rd_T58 l0 x5_1).f3.f0) ((rd_T58 l0 x5_1).f3.f1) _ _ ((rd_T58 l0 x5_1).f3.f2) _ _ ((rd_T58 l0 x5_1).f4) _ _ ((rd_T58 l0 x5_1).f5) a1 true _ (aC_ (Kd.C_below HR21_5.out HB.out)) HC21_5.out (aC_ (Kd.C_below HR21_6.out HB.out)) HC21_6.out (aC_ (Kd.C_below HR21_7.out HB.out)) HC21_7.out A5.out).mono ?_); rintro e w7 ⟨rfl, hb⟩; refine ⟨_, rfl, ?_⟩; replace HB := am (below_step ab2_ hb); (try clear hb)))
      go_roundg k1
      case measure => have := HK1.out; omega
      case rel => exact ⟨(wrap64 (x5_1 + 1)), sd_, H', ⟨by have := HK1.out; omega⟩, ⟨ab2_⟩⟩
     replace c6 := Bool.eq_false_iff.mpr c6
     subst c6
     rw [if_neg (show ¬ (false = true) by decide)] at H
     obtain rfl := Option.some.inj H
     have p21 : 0 ≤ (x5_1 : Int) := of_decide_eq_true asm_
     have q21 : x5_1 < (l0.length : Int) := of_decide_eq_true asm_
     obtain ⟨ad21, A21_5, c21_5, A21_6, c21_6, A21_7, c21_7, e21, hx21_0, hx21_1, hx21_2, hx21_3, hx21_4, hx21_5, hx21_6, hx21_7, hl21_5, hi21_5, hl21_6, hi21_6, hl21_7, hi21_7⟩ := at_T58 HR0.out x5_1 p21 q21
     cases e21
     replace hx21_0 := (HB.out.cell (World.block_lt_of_cell? w _ hx21_0)).trans hx21_0
     replace hx21_1 := (HB.out.cell (World.block_lt_of_cell? w _ hx21_1)).trans hx21_1
     replace hx21_2 := (HB.out.cell (World.block_lt_of_cell? w _ hx21_2)).trans hx21_2
     replace hx21_3 := (HB.out.cell (World.block_lt_of_cell? w _ hx21_3)).trans hx21_3
     replace hx21_4 := (HB.out.cell (World.block_lt_of_cell? w _ hx21_4)).trans hx21_4
     replace hx21_5 := (HB.out.cell (World.block_lt_of_cell? w _ hx21_5)).trans hx21_5
     replace hx21_6 := (HB.out.cell (World.block_lt_of_cell? w _ hx21_6)).trans hx21_6
     replace hx21_7 := (HB.out.cell (World.block_lt_of_cell? w _ hx21_7)).trans hx21_7
     have HR21_5 := am hi21_5
     have HC21_5 := am hl21_5
     clear hi21_5 hl21_5
     have HR21_6 := am hi21_6
     have HC21_6 := am hl21_6
     clear hi21_6 hl21_6
     have HR21_7 := am hi21_7
     have HC21_7 := am hl21_7
     clear hi21_7 hl21_7
     replace p21 := eq_true p21
     replace q21 := eq_true q21
     go_wp2_with (first | ((with_reducible refine gate_callee (f := 93) rfl ?_); refine gl_ 17 Tryz.func93 #[.agg #[.int .i64 ((rd_T58 l0 x5_1).f0), .int .i64 ((rd_T58 l0 x5_1).f1), .int .i64 ((rd_T58 l0 x5_1).f2), .int .i64 ((rd_T58 l0 x5_1).f3.f0), .int .i64 ((rd_T58 l0 x5_1).f3.f1), .slice A21_5 ((rd_T58 l0 x5_1).f3.f2).length c21_5, .slice A21_6 ((rd_T58 l0 x5_1).f4).length c21_6, .slice A21_7 ((rd_T58 l0 x5_1).f5).length c21_7], .int .i64 a1] ?_; (with_reducible refine (ih_spec_l11Ok k1 (by have := HK1.out; omega) ((rd_T58 l0 x5_1).f0) ((rd_T58 l0 x5_1).f1) ((rd_T58 l0 x5_1).f2) ((rd_T58 l0 x5_1).f3.f0) ((rd_T58 l0 x5_1).f3.f1) _ _ ((rd_T58 l0 x5_1).f3.f2) _ _ ((rd_T58 l0 x5_1).f4) _ _ ((rd_T58 l0 x5_1).f5) a1 false _ (aC_ (Kd.C_below HR21_5.out HB.out)) HC21_5.out (aC_ (Kd.C_below HR21_6.out HB.out)) HC21_6.out (aC_ (Kd.C_below HR21_7.out HB.out)) HC21_7.out A5.out).mono ?_); rintro e w8 ⟨rfl, hb⟩; refine ⟨_, rfl, ?_⟩; replace HB := am (below_step ab2_ hb); (try clear hb)))
     go_ret
     exact ⟨rr_, ab2_⟩
    rw [if_neg c4] at H
    exact absurd H (by simp)
   rw [if_neg c3] at H
   have c3b0 : decide (x5_1 < (l0.length : Int)) = false := decide_eq_false c3
   clear c3
   obtain rfl := Option.some.inj H
   go_wp2
   go_ret
   exact ⟨rr_, ab2_⟩
theorem spec_l11Ok.calls_all (k : Nat) : spec_l11Ok.CallsAt k ∧ spec_l11Blocks.CallsAt k := by
 induction k using Nat.strongRecOn with
 | _ k ih => exact ⟨spec_l11Ok.step k (ih_spec_l11Ok := fun m hm => (ih m hm).1) (ih_spec_l11Blocks := fun m hm => (ih m hm).2), spec_l11Blocks.step k (ih_spec_l11Ok := fun m hm => (ih m hm).1) (ih_spec_l11Blocks := fun m hm => (ih m hm).2)⟩
theorem spec_l11Ok.calls (k : Nat) : spec_l11Ok.CallsAt k := (spec_l11Ok.calls_all k).1
theorem spec_l11Blocks.calls (k : Nat) : spec_l11Blocks.CallsAt k := (spec_l11Ok.calls_all k).2
theorem spec_StmtsValid.mono : ∀ a0 k, LeO (spec_StmtsValid.f k a0) (spec_StmtsValid.f (k + 1) a0) := by
 intro a0 k
 unfold spec_StmtsValid.f
 have m0 := @spec_l11Blocks.mono
 have m1 := @spec_l11Count.mono
 exact mo_
theorem spec_StmtsValid.calls (k : Nat) (A0 : Option Addr) (c0 : Nat) (l0 : List (S58)) (r : Bool) (w : World) (hr0 : Kd.C k58 w A0 l0.length l0) (hc0 : l0.length ≤ c0) (h : spec_StmtsValid.f k l0 = some r) :
  Calls Tryz.prog 47 #[.slice A0 l0.length c0] w fun e w' => e = .returned (.bool r) ∧ Below w.heap.size w w' := by
 have HR0 := am hr0
 have HC0 := am hc0
 clear hr0 hc0
 have HB := am (Below.refl w.heap.size w)
 have H : ((spec_l11Blocks.f k l0 3).bind fun t21 => (if t21 = true then ((spec_l11Count.f k l0).bind fun t22 => (some (decide (t22 ≤ 16)))) else (some false))) = some r := h
 clear h
 obtain ⟨t21, A2, H⟩ := bsa H
 (try dsimp only at H)
 by_cases c3 : t21 = true
 ·subst c3
  rw [if_pos rfl] at H
  obtain ⟨t22, A4, H⟩ := bsa H
  (try dsimp only at H)
  obtain rfl := Option.some.inj H
  go_enter Tryz.func47, Tryz.ntmps47
  go_wp2_with (first | ((with_reducible refine gate_callee (f := 70) rfl ?_); refine gl_ 4 Tryz.func70 #[.slice A0 l0.length c0, .int .i64 3] ?_; (with_reducible refine (spec_l11Blocks.calls k _ _ l0 3 true _ (aC_ HR0.out) HC0.out A2.out).mono ?_); rintro e w5 ⟨rfl, hb⟩; refine ⟨_, rfl, ?_⟩; replace HB := am (below_step ab2_ hb); (try clear hb)) | (go_at_call 71; (with_reducible refine (spec_l11Count.calls k _ _ l0 t22 _ (aC_ (Kd.C_below HR0.out HB.out)) HC0.out A4.out).mono ?_); rintro e w6 ⟨rfl, hb⟩; replace HB := am (below_step ab2_ hb); (try clear hb)))
  go_ret
  exact ⟨rr_, ab2_⟩
 replace c3 := Bool.eq_false_iff.mpr c3
 subst c3
 rw [if_neg (show ¬ (false = true) by decide)] at H
 obtain rfl := Option.some.inj H
 go_enter Tryz.func47, Tryz.ntmps47
 go_wp2_with (first | ((with_reducible refine gate_callee (f := 70) rfl ?_); refine gl_ 4 Tryz.func70 #[.slice A0 l0.length c0, .int .i64 3] ?_; (with_reducible refine (spec_l11Blocks.calls k _ _ l0 3 false _ (aC_ HR0.out) HC0.out A2.out).mono ?_); rintro e w7 ⟨rfl, hb⟩; refine ⟨_, rfl, ?_⟩; replace HB := am (below_step ab2_ hb); (try clear hb)))
 go_ret
 exact ⟨rr_, ab2_⟩
theorem spec_l12Boxes.mono_l : ∀ k, (∀ y0 y1, LeO (spec_l12Boxes.f k y0 y1) (spec_l12Boxes.f (k + 1) y0 y1)) ∧ (∀ y0 y1 y2, LeO (spec_l12Boxes.l0 k y0 y1 y2) (spec_l12Boxes.l0 (k + 1) y0 y1 y2)) ∧ (∀ y0 y1 y2 y3 y4 y5 y6 y7 y8 y9 y10 y11, LeO (spec_l12Boxes.j1 k y0 y1 y2 y3 y4 y5 y6 y7 y8 y9 y10 y11) (spec_l12Boxes.j1 (k + 1) y0 y1 y2 y3 y4 y5 y6 y7 y8 y9 y10 y11))
 | 0 => ⟨fun _ _ r h => by simp [spec_l12Boxes.f] at h, fun _ _ _ r h => by simp [spec_l12Boxes.l0] at h, fun _ _ _ _ _ _ _ _ _ _ _ _ r h => by simp [spec_l12Boxes.j1] at h⟩
 | k + 1 => by
  obtain ⟨ih0, ih1, ih2⟩ := spec_l12Boxes.mono_l k
  refine ⟨?_, ?_, ?_⟩
  ·intro y0 y1
   unfold spec_l12Boxes.f
   exact mo_
  ·intro y0 y1 y2
   unfold spec_l12Boxes.l0
   exact mo_
  ·intro y0 y1 y2 y3 y4 y5 y6 y7 y8 y9 y10 y11
   unfold spec_l12Boxes.j1
   exact mo_
theorem spec_l12Boxes.mono : ∀ a0 a1 k, LeO (spec_l12Boxes.f k a0 a1) (spec_l12Boxes.f (k + 1) a0 a1) := by
 intro a0 a1 k
 obtain ⟨ih0, ih1, ih2⟩ := spec_l12Boxes.mono_l k
 exact ih0 a0 a1
theorem spec_l12Boxes.calls (k : Nat) : ∀ (A0 : Option Addr) (c0 : Nat) (l0 : List (S58)) (a1 : Int) (r : Bool) (w : World) (hr0 : Kd.C k58 w A0 l0.length l0) (hc0 : l0.length ≤ c0) (h : spec_l12Boxes.f k l0 a1 = some r),
  Calls Tryz.prog 48 #[.slice A0 l0.length c0, .int .i64 a1] w fun e w' => e = .returned (.bool r) ∧ Below w.heap.size w w' := by
 induction k using Nat.strongRecOn with
 | _ k ih =>
 intro A0 c0 l0 a1 r w hr0 hc0 h
 cases k with
 | zero => exact absurd h (by simp [spec_l12Boxes.f])
 | succ k =>
 simp only [spec_l12Boxes.f] at h
 have hu58 := Tryz.underlying58
 have HR0 := am hr0
 have HC0 := am hc0
 clear hr0 hc0
 have HB := am (Below.refl w.heap.size w)
 have H : (spec_l12Boxes.l0 k l0 a1 0) = some r := h
 clear h
 have H' := am H
 clear H
 go_enter Tryz.func48, Tryz.ntmps48
 go_wp2
 go_loopg [5] k (fun kq v5 w' => ∃ (x5_1 : Int), v5 = .int .i64 x5_1 ∧ Aside0 (spec_l12Boxes.l0 kq l0 a1 x5_1 = some r) ∧ Aside0 (kq ≤ k) ∧ Aside0 (Below w.heap.size w w'))
 case atStart => exact ⟨(0), sd_, H', ⟨Nat.le_refl _⟩, ⟨ab2_⟩⟩
 case round =>
  clear H'
  obtain ⟨x5_1, rfl, HA, HK1, HB⟩ := hrel
  cases gk with
  | zero => exact absurd HA.out (by simp [spec_l12Boxes.l0])
  | succ k1 =>
   have H := HA.out
   clear HA
   simp only [spec_l12Boxes.l0] at H
   by_cases c3 : x5_1 < (l0.length : Int)
   ·rw [if_pos c3] at H
    have c3b0 : decide (x5_1 < (l0.length : Int)) = true := decide_eq_true c3
    clear c3
    by_cases c4 : 0 ≤ x5_1
    ·rw [if_pos c4] at H
     have c4b0 : decide (0 ≤ x5_1) = true := decide_eq_true c4
     clear c4
     have HC5 := am H
     clear H
     have p28 : 0 ≤ (x5_1 : Int) := of_decide_eq_true asm_
     have q28 : x5_1 < (l0.length : Int) := of_decide_eq_true asm_
     obtain ⟨ad28, A28_5, c28_5, A28_6, c28_6, A28_7, c28_7, e28, hx28_0, hx28_1, hx28_2, hx28_3, hx28_4, hx28_5, hx28_6, hx28_7, hl28_5, hi28_5, hl28_6, hi28_6, hl28_7, hi28_7⟩ := at_T58 HR0.out x5_1 p28 q28
     cases e28
     replace hx28_0 := (HB.out.cell (World.block_lt_of_cell? w _ hx28_0)).trans hx28_0
     replace hx28_1 := (HB.out.cell (World.block_lt_of_cell? w _ hx28_1)).trans hx28_1
     replace hx28_2 := (HB.out.cell (World.block_lt_of_cell? w _ hx28_2)).trans hx28_2
     replace hx28_3 := (HB.out.cell (World.block_lt_of_cell? w _ hx28_3)).trans hx28_3
     replace hx28_4 := (HB.out.cell (World.block_lt_of_cell? w _ hx28_4)).trans hx28_4
     replace hx28_5 := (HB.out.cell (World.block_lt_of_cell? w _ hx28_5)).trans hx28_5
     replace hx28_6 := (HB.out.cell (World.block_lt_of_cell? w _ hx28_6)).trans hx28_6
     replace hx28_7 := (HB.out.cell (World.block_lt_of_cell? w _ hx28_7)).trans hx28_7
     have HR28_5 := am hi28_5
     have HC28_5 := am hl28_5
     clear hi28_5 hl28_5
     have HR28_6 := am hi28_6
     have HC28_6 := am hl28_6
     clear hi28_6 hl28_6
     have HR28_7 := am hi28_7
     have HC28_7 := am hl28_7
     clear hi28_7 hl28_7
     replace p28 := eq_true p28
     replace q28 := eq_true q28
     go_upto_region 5 with (first | ((with_reducible refine gate_dst (N := 6) rfl ?_); refine box_event rfl (N := 6) rfl (cs := #[.int .i64 0, .int .i64 0, .int .i64 0, .int .i64 0, .int .i64 0, .slice none 0 0, .slice none 0 0, .slice none 0 0]) (t := 58) rn_ ?_; intro gb29 hg w6 hbox hb; have BK29 := am (hbox); have GW29 := am ((by rw [hg]; exact (below_size ab2_) : w.heap.size ≤ gb29)); have GE29 := am ((by rw [hg]; exact (below_size ab2_) : w.heap.size ≤ gb29)); replace HB := am (below_step ab2_ hb); clear hb hbox hg; obtain ⟨hcz7_0, hcz7_1, hcz7_2, hcz7_3, hcz7_4, hcz7_5, hcz7_6, hcz7_7, hfz7_0, hfz7_1, hfz7_2, hfz7_3, hfz7_4, hfz7_5, hfz7_6, hfz7_7⟩ := bcf8_ BK29.out))
     (try simp only [Act.put, List.setIfInBounds_toArray, List.set_cons_zero, List.set_cons_succ])
     go_cut [30] (fun v30 wc => ∃ (kq : Nat) (x30_4 : Bool), v30 = .bool x30_4 ∧ Aside0 (spec_l12Boxes.j1 kq l0 a1 x5_1 x30_4 ((rd_T58 l0 x5_1).f0) ((rd_T58 l0 x5_1).f1) ((rd_T58 l0 x5_1).f2) ((rd_T58 l0 x5_1).f3.f0) ((rd_T58 l0 x5_1).f3.f1) ((rd_T58 l0 x5_1).f3.f2) ((rd_T58 l0 x5_1).f4) ((rd_T58 l0 x5_1).f5) = some r) ∧ Aside0 (kq ≤ k1) ∧ Aside0 (wc.heap[gb29]? = some (.cells #[.int .i64 ((rd_T58 l0 x5_1).f0), .int .i64 ((rd_T58 l0 x5_1).f1), .int .i64 ((rd_T58 l0 x5_1).f2), .int .i64 ((rd_T58 l0 x5_1).f3.f0), .int .i64 ((rd_T58 l0 x5_1).f3.f1), (.slice A28_5 ((rd_T58 l0 x5_1).f3.f2).length c28_5), (.slice A28_6 ((rd_T58 l0 x5_1).f4).length c28_6), (.slice A28_7 ((rd_T58 l0 x5_1).f5).length c28_7)] 58 (0, 0))) ∧ Aside0 (Below w.heap.size w wc))
     case first =>
      have H := HC5.out
      clear HC5
      by_cases c8 : ((rd_T58 l0 x5_1).f0) = 4
      ·rw [if_pos c8] at H
       have c8b0 : (((rd_T58 l0 x5_1).f0) == 4) = true := beq_iff_eq.mpr c8
       have c8b1 : (((rd_T58 l0 x5_1).f0) != 4) = false := bne_eq_false_iff_eq.mpr c8
       clear c8
       (first | rw [c8b0] | (simp only [i64_w, i32_w]; rw [c8b0]) | skip)
       have H' := am H
       clear H
       obtain ⟨hcz9_0, hcz9_1, hcz9_2, hcz9_3, hcz9_4, hcz9_5, hcz9_6, hcz9_7, hfz9_0, hfz9_1, hfz9_2, hfz9_3, hfz9_4, hfz9_5, hfz9_6, hfz9_7⟩ := bcf8_ BK29.out
       go_wp2
       go_meet
       case rel => exact ⟨_, (decide (((rd_T58 l0 x5_1).f2) ≥ a1)), sd_, H', ⟨by have := HK1.out; first | omega | exact Nat.le_refl _⟩, ⟨(blk_put (blk_put (blk_put (blk_put (blk_put (blk_put (blk_put (blk_put BK29.out 0 _ rfl) 1 _ rfl) 2 _ rfl) 3 _ rfl) 4 _ rfl) 5 _ rfl) 6 _ rfl) 7 _ rfl)⟩, ⟨ab57_⟩⟩
      rw [if_neg c8] at H
      have c8b0 : (((rd_T58 l0 x5_1).f0) == 4) = false := beq_eq_false_iff_ne.mpr c8
      have c8b1 : (((rd_T58 l0 x5_1).f0) != 4) = true := bne_iff_ne.mpr c8
      (first | rw [c8b0] | (simp only [i64_w, i32_w]; rw [c8b0]) | skip)
      by_cases c10 : ((rd_T58 l0 x5_1).f0) = 5
      ·rw [if_pos c10] at H
       have c10b0 : (((rd_T58 l0 x5_1).f0) == 5) = true := beq_iff_eq.mpr c10
       have c10b1 : (((rd_T58 l0 x5_1).f0) != 5) = false := bne_eq_false_iff_eq.mpr c10
       clear c10
       have H' := am H
       clear H
       obtain ⟨hcz11_0, hcz11_1, hcz11_2, hcz11_3, hcz11_4, hcz11_5, hcz11_6, hcz11_7, hfz11_0, hfz11_1, hfz11_2, hfz11_3, hfz11_4, hfz11_5, hfz11_6, hfz11_7⟩ := bcf8_ BK29.out
       go_wp2
       go_meet
       case rel => exact ⟨_, (decide (((rd_T58 l0 x5_1).f2) ≥ a1)), sd_, H', ⟨by have := HK1.out; first | omega | exact Nat.le_refl _⟩, ⟨(blk_put (blk_put (blk_put (blk_put (blk_put (blk_put (blk_put (blk_put BK29.out 0 _ rfl) 1 _ rfl) 2 _ rfl) 3 _ rfl) 4 _ rfl) 5 _ rfl) 6 _ rfl) 7 _ rfl)⟩, ⟨ab57_⟩⟩
      rw [if_neg c10] at H
      have c10b0 : (((rd_T58 l0 x5_1).f0) == 5) = false := beq_eq_false_iff_ne.mpr c10
      have c10b1 : (((rd_T58 l0 x5_1).f0) != 5) = true := bne_iff_ne.mpr c10
      have H' := am H
      clear H
      obtain ⟨hcz12_0, hcz12_1, hcz12_2, hcz12_3, hcz12_4, hcz12_5, hcz12_6, hcz12_7, hfz12_0, hfz12_1, hfz12_2, hfz12_3, hfz12_4, hfz12_5, hfz12_6, hfz12_7⟩ := bcf8_ BK29.out
      go_wp2
      go_meet
      case rel => exact ⟨_, (false), sd_, H', ⟨by have := HK1.out; first | omega | exact Nat.le_refl _⟩, ⟨(blk_put (blk_put (blk_put (blk_put (blk_put (blk_put (blk_put (blk_put BK29.out 0 _ rfl) 1 _ rfl) 2 _ rfl) 3 _ rfl) 4 _ rfl) 5 _ rfl) 6 _ rfl) 7 _ rfl)⟩, ⟨ab57_⟩⟩
     case rest =>
      clear HC5
      try clear c3
      try clear c3b0
      try clear c4
      try clear c4b0
      try clear hcz7_0
      try clear hcz7_1
      try clear hcz7_2
      try clear hcz7_3
      try clear hcz7_4
      try clear hcz7_5
      try clear hcz7_6
      try clear hcz7_7
      try clear hfz7_0
      try clear hfz7_1
      try clear hfz7_2
      try clear hfz7_3
      try clear hfz7_4
      try clear hfz7_5
      try clear hfz7_6
      try clear hfz7_7
      try clear hx28_0
      try clear hx28_1
      try clear hx28_2
      try clear hx28_3
      try clear hx28_4
      try clear hx28_5
      try clear hx28_6
      try clear hx28_7
      try clear p28
      try clear q28
      obtain ⟨kq, x30_4, rfl, HA, HJ4, BK29, HB⟩ := hcut
      cases kq with
      | zero => exact absurd HA.out (by simp [spec_l12Boxes.j1])
      | succ kj4 =>
       have H := HA.out
       clear HA
       simp only [spec_l12Boxes.j1] at H
       by_cases c13 : x30_4 = true
       ·subst c13
        rw [if_pos rfl] at H
        obtain rfl := Option.some.inj H
        go_wp2
        go_ret
        exact ⟨rr_, ab57_⟩
       replace c13 := Bool.eq_false_iff.mpr c13
       subst c13
       rw [if_neg (show ¬ (false = true) by decide)] at H
       obtain ⟨t31, A35, H⟩ := bsm H
       (try dsimp only at H)
       have A14 := am A35
       clear A35
       by_cases c15 : t31 = true
       ·subst c15
        rw [if_pos rfl] at H
        obtain ⟨t33, A36, H⟩ := bsm H
        (try dsimp only at H)
        have A16 := am A36
        clear A36
        by_cases c17 : t33 = true
        ·subst c17
         rw [if_pos rfl] at H
         have H' := am H
         clear H
         obtain ⟨hcz18_0, hcz18_1, hcz18_2, hcz18_3, hcz18_4, hcz18_5, hcz18_6, hcz18_7, hfz18_0, hfz18_1, hfz18_2, hfz18_3, hfz18_4, hfz18_5, hfz18_6, hfz18_7⟩ := bcf8_ BK29.out
         go_wp2_with (first | ((with_reducible refine gate_callee (f := 48) rfl ?_); refine gl_ 34 Tryz.func48 #[.slice A28_6 ((rd_T58 l0 x5_1).f4).length c28_6, .int .i64 a1] ?_; (with_reducible refine (ih kj4 (by have := HK1.out; have := HJ4.out; omega) _ _ ((rd_T58 l0 x5_1).f4) a1 true _ (aC_ (Kd.C_below HR28_6.out HB.out)) HC28_6.out A14.out).mono ?_); rintro e w19 ⟨rfl, hb⟩; refine ⟨_, rfl, ?_⟩; replace BK29 := am (bbl_ BK29.out hb); replace HB := am (below_step ab57_ hb); (try clear hb); obtain ⟨hcz20_0, hcz20_1, hcz20_2, hcz20_3, hcz20_4, hcz20_5, hcz20_6, hcz20_7, hfz20_0, hfz20_1, hfz20_2, hfz20_3, hfz20_4, hfz20_5, hfz20_6, hfz20_7⟩ := bcf8_ BK29.out) | (go_at_call 48; (with_reducible refine (ih kj4 (by have := HK1.out; have := HJ4.out; omega) _ _ ((rd_T58 l0 x5_1).f5) a1 true _ (aC_ (Kd.C_below HR28_7.out HB.out)) HC28_7.out A16.out).mono ?_); rintro e w21 ⟨rfl, hb⟩; replace BK29 := am (bbl_ BK29.out hb); replace HB := am (below_step ab57_ hb); (try clear hb)))
         go_roundg kj4
         case measure => have := HK1.out; have := HJ4.out; omega
         case rel => exact ⟨(wrap64 (x5_1 + 1)), sd_, H', ⟨by have := HK1.out; have := HJ4.out; omega⟩, ⟨ab57_⟩⟩
        replace c17 := Bool.eq_false_iff.mpr c17
        subst c17
        rw [if_neg (show ¬ (false = true) by decide)] at H
        obtain rfl := Option.some.inj H
        obtain ⟨hcz22_0, hcz22_1, hcz22_2, hcz22_3, hcz22_4, hcz22_5, hcz22_6, hcz22_7, hfz22_0, hfz22_1, hfz22_2, hfz22_3, hfz22_4, hfz22_5, hfz22_6, hfz22_7⟩ := bcf8_ BK29.out
        go_wp2_with (first | ((with_reducible refine gate_callee (f := 48) rfl ?_); refine gl_ 34 Tryz.func48 #[.slice A28_6 ((rd_T58 l0 x5_1).f4).length c28_6, .int .i64 a1] ?_; (with_reducible refine (ih kj4 (by have := HK1.out; have := HJ4.out; omega) _ _ ((rd_T58 l0 x5_1).f4) a1 true _ (aC_ (Kd.C_below HR28_6.out HB.out)) HC28_6.out A14.out).mono ?_); rintro e w23 ⟨rfl, hb⟩; refine ⟨_, rfl, ?_⟩; replace BK29 := am (bbl_ BK29.out hb); replace HB := am (below_step ab57_ hb); (try clear hb); obtain ⟨hcz24_0, hcz24_1, hcz24_2, hcz24_3, hcz24_4, hcz24_5, hcz24_6, hcz24_7, hfz24_0, hfz24_1, hfz24_2, hfz24_3, hfz24_4, hfz24_5, hfz24_6, hfz24_7⟩ := bcf8_ BK29.out) | (go_at_call 48; (with_reducible refine (ih kj4 (by have := HK1.out; have := HJ4.out; omega) _ _ ((rd_T58 l0 x5_1).f5) a1 false _ (aC_ (Kd.C_below HR28_7.out HB.out)) HC28_7.out A16.out).mono ?_); rintro e w25 ⟨rfl, hb⟩; replace BK29 := am (bbl_ BK29.out hb); replace HB := am (below_step ab57_ hb); (try clear hb)))
        go_ret
        exact ⟨rr_, ab57_⟩
       replace c15 := Bool.eq_false_iff.mpr c15
       subst c15
       rw [if_neg (show ¬ (false = true) by decide)] at H
       obtain rfl := Option.some.inj H
       obtain ⟨hcz26_0, hcz26_1, hcz26_2, hcz26_3, hcz26_4, hcz26_5, hcz26_6, hcz26_7, hfz26_0, hfz26_1, hfz26_2, hfz26_3, hfz26_4, hfz26_5, hfz26_6, hfz26_7⟩ := bcf8_ BK29.out
       go_wp2_with (first | ((with_reducible refine gate_callee (f := 48) rfl ?_); refine gl_ 34 Tryz.func48 #[.slice A28_6 ((rd_T58 l0 x5_1).f4).length c28_6, .int .i64 a1] ?_; (with_reducible refine (ih kj4 (by have := HK1.out; have := HJ4.out; omega) _ _ ((rd_T58 l0 x5_1).f4) a1 false _ (aC_ (Kd.C_below HR28_6.out HB.out)) HC28_6.out A14.out).mono ?_); rintro e w27 ⟨rfl, hb⟩; refine ⟨_, rfl, ?_⟩; replace BK29 := am (bbl_ BK29.out hb); replace HB := am (below_step ab57_ hb); (try clear hb)))
       go_ret
       exact ⟨rr_, ab57_⟩
    rw [if_neg c4] at H
    exact absurd H (by simp)
   rw [if_neg c3] at H
   have c3b0 : decide (x5_1 < (l0.length : Int)) = false := decide_eq_false c3
   clear c3
   obtain rfl := Option.some.inj H
   go_wp2
   go_ret
   exact ⟨rr_, ab2_⟩
theorem spec_ProgramValid.mono_l : ∀ k, (∀ y0 y1 y2, LeO (spec_ProgramValid.j0 k y0 y1 y2) (spec_ProgramValid.j0 (k + 1) y0 y1 y2)) ∧ (∀ y0 y1 y2, LeO (spec_ProgramValid.l0 k y0 y1 y2) (spec_ProgramValid.l0 (k + 1) y0 y1 y2))
 | 0 => ⟨fun _ _ _ r h => by simp [spec_ProgramValid.j0] at h, fun _ _ _ r h => by simp [spec_ProgramValid.l0] at h⟩
 | k + 1 => by
  obtain ⟨ih0, ih1⟩ := spec_ProgramValid.mono_l k
  refine ⟨?_, ?_⟩
  ·intro y0 y1 y2
   unfold spec_ProgramValid.j0
   have m0 := @spec_StmtsValid.mono
   have m1 := @spec_l12Boxes.mono
   have m2 := @spec_l12Rooms.mono
   exact mo_
  ·intro y0 y1 y2
   unfold spec_ProgramValid.l0
   have m0 := @spec_StmtsValid.mono
   have m1 := @spec_l12Boxes.mono
   have m2 := @spec_l12Rooms.mono
   exact mo_
theorem spec_ProgramValid.mono : ∀ a0 a1 k, LeO (spec_ProgramValid.f k a0 a1) (spec_ProgramValid.f (k + 1) a0 a1) := by
 intro a0 a1 k
 obtain ⟨ih0, ih1⟩ := spec_ProgramValid.mono_l k
 unfold spec_ProgramValid.f
 have m0 := @spec_StmtsValid.mono
 have m1 := @spec_l12Boxes.mono
 have m2 := @spec_l12Rooms.mono
 exact mo_
def spec_ProgramValid.T6 : Bool × List (List Nat × List Nat) := (true, [([], []), ([0], [0]), ([], []), ([1, 2], [1, 2]), ([3], [3]), ([4], [4]), ([5], [5]), ([6, 5], [6]), ([7], [7]), ([8, 7], [7, 8]), ([7], [7]), ([9, 10, 7], [7, 9, 10]), ([11, 7], [7, 11]), ([7], [7]), ([13, 7], [7, 13]), ([14, 7], [7, 14]), ([12, 15, 7, 7], [7, 12, 15]), ([16, 7], [7, 16]), ([7, 17], [7, 17])])
def spec_ProgramValid.B6 : List Nat := [0, 1, 0, 7, 15, 31, 63, 127, 255, 511, 255, 2047, 4095, 255, 8447, 24831, 65535, 131071, 262143]
theorem spec_ProgramValid.tab6 : rtab .any (opsOf Tryz.f23 6) = spec_ProgramValid.T6 := by kernel_rfl
theorem spec_ProgramValid.bits6 : waitsOk spec_ProgramValid.T6.2 spec_ProgramValid.B6 = true := by kernel_rfl
theorem spec_ProgramValid.calls (k : Nat) (A0_0 : Option Addr) (c0_0 : Nat) (l0_0 : List Int) (A0_1 : Option Addr) (c0_1 : Nat) (l0_1 : List (List (S58))) (r : Bool) (w : World) (hr0_0 : Kd.C (Kd.int .i64) w A0_0 l0_0.length l0_0) (hc0_0 : l0_0.length ≤ c0_0) (hr0_1 : Kd.C (Kd.slice 58 k58) w A0_1 l0_1.length l0_1) (hc0_1 : l0_1.length ≤ c0_1) (h : spec_ProgramValid.f k l0_0 l0_1 = some r) :
  Calls Tryz.prog 23 #[.agg #[.slice A0_0 l0_0.length c0_0, .slice A0_1 l0_1.length c0_1]] w fun e w' => e = .returned (.bool r) ∧ Below w.heap.size w w' := by
 have hu26 := Tryz.underlying26
 have HR0_0 := am hr0_0
 have HC0_0 := am hc0_0
 clear hr0_0 hc0_0
 have HR0_1 := am hr0_1
 have HC0_1 := am hc0_1
 clear hr0_1 hc0_1
 have HB := am (Below.refl w.heap.size w)
 have H : ((spec_l12Rooms.f k l0_0).bind fun t41 => (if t41 = true then ((spec_l6In.f (l0_1.length : Int) 1 3).bind fun t42 => (spec_ProgramValid.j0 k (!t42) l0_0 l0_1)) else (spec_ProgramValid.j0 k true l0_0 l0_1))) = some r := h
 clear h
 have HC2 := am H
 clear H
 go_enter Tryz.func23, Tryz.ntmps23
 go_upto_region 1 with (first | ((with_reducible refine gate_dst (N := 1) rfl ?_); (try (refine gate_guard (by rfl) ?_; dsimp only)); refine box_event rfl (N := 1) rfl (cs := #[.slice A0_0 l0_0.length c0_0, .slice A0_1 l0_1.length c0_1]) (t := 26) rn_ ?_; intro gb43 hg w3 hbox hb; have BK43 := am (hbox); have GW43 := am ((by rw [hg]; exact (below_size ab2_) : w.heap.size ≤ gb43)); have GE43 := am ((by rw [hg]; exact (below_size ab2_) : w.heap.size ≤ gb43)); replace HB := am (below_step ab2_ hb); clear hb hbox hg))
 (try simp only [Act.put, List.setIfInBounds_toArray, List.set_cons_zero, List.set_cons_succ])
 go_cut [14] (fun v14 wc => ∃ (kq : Nat) (x14_1 : Bool), v14 = .bool x14_1 ∧ Aside0 (spec_ProgramValid.j0 kq x14_1 l0_0 l0_1 = some r) ∧ Aside0 (kq ≤ k) ∧ Aside0 (wc.heap[gb43]? = some (.cells #[(.slice A0_0 l0_0.length c0_0), (.slice A0_1 l0_1.length c0_1)] 26 (0, 0))) ∧ Aside0 (Below w.heap.size w wc))
 case first =>
  have H := HC2.out
  clear HC2
  obtain ⟨t41, A4, H⟩ := bsa H
  (try dsimp only at H)
  by_cases c5 : t41 = true
  ·subst c5
   rw [if_pos rfl] at H
   obtain ⟨t42, A6, H⟩ := bsa H
   (try dsimp only at H)
   have H' := am H
   clear H
   obtain ⟨hcz7_0, hcz7_1, hfz7_0, hfz7_1⟩ := bcf2_ BK43.out
   go_wp2_with (first | ((with_reducible refine gate_callee (f := 45) rfl ?_); refine gl_ 6 Tryz.func45 #[.slice A0_0 l0_0.length c0_0] ?_; (with_reducible refine (spec_l12Rooms.calls k _ _ l0_0 true _ (aC_ (Kd.C_below HR0_0.out HB.out)) HC0_0.out A4.out).mono ?_); rintro e w' ⟨rfl, ⟨nd, rfl⟩⟩; refine ⟨_, rfl, ?_⟩) | (go_at_call 46; (with_reducible refine (spec_l6In.calls (l0_1.length : Int) 1 3 t42 _ A6.out).mono ?_); rintro e w' ⟨rfl, ⟨nd, rfl⟩⟩))
   go_meet
   case rel => exact ⟨_, (!t42), sd_, H', ⟨by first | omega | exact Nat.le_refl _⟩, ⟨by (with_reducible repeat (first | refine blk_drewN ?_ _ | refine blk_drew ?_ | refine blk_alloc ?_ _)); exact BK43.out⟩, ⟨ab15_⟩⟩
  replace c5 := Bool.eq_false_iff.mpr c5
  subst c5
  rw [if_neg (show ¬ (false = true) by decide)] at H
  have H' := am H
  clear H
  obtain ⟨hcz8_0, hcz8_1, hfz8_0, hfz8_1⟩ := bcf2_ BK43.out
  go_wp2_with (first | ((with_reducible refine gate_callee (f := 45) rfl ?_); refine gl_ 6 Tryz.func45 #[.slice A0_0 l0_0.length c0_0] ?_; (with_reducible refine (spec_l12Rooms.calls k _ _ l0_0 false _ (aC_ (Kd.C_below HR0_0.out HB.out)) HC0_0.out A4.out).mono ?_); rintro e w' ⟨rfl, ⟨nd, rfl⟩⟩; refine ⟨_, rfl, ?_⟩))
  go_meet
  case rel => exact ⟨_, (true), sd_, H', ⟨by first | omega | exact Nat.le_refl _⟩, ⟨by (with_reducible repeat (first | refine blk_drewN ?_ _ | refine blk_drew ?_ | refine blk_alloc ?_ _)); exact BK43.out⟩, ⟨ab15_⟩⟩
 case rest =>
  clear HC2
  obtain ⟨kq, x14_1, rfl, HA, HJ1, BK43, HB⟩ := hcut
  cases kq with
  | zero => exact absurd HA.out (by simp [spec_ProgramValid.j0])
  | succ kj1 =>
   have H := HA.out
   clear HA
   simp only [spec_ProgramValid.j0] at H
   by_cases c9 : x14_1 = true
   ·subst c9
    rw [if_pos rfl] at H
    obtain rfl := Option.some.inj H
    go_wp2
    go_ret
    exact ⟨rr_, ab15_⟩
   replace c9 := Bool.eq_false_iff.mpr c9
   subst c9
   rw [if_neg (show ¬ (false = true) by decide)] at H
   have H' := am H
   clear H
   go_wp2
   go_loopg [3] kj1 (fun kq v3 w' => ∃ (x3_2 : Int), v3 = .int .i64 x3_2 ∧ Aside0 (spec_ProgramValid.l0 kq x3_2 l0_0 l0_1 = some r) ∧ Aside0 (kq ≤ kj1) ∧ Aside0 (w'.heap[gb43]? = some (.cells #[(.slice A0_0 l0_0.length c0_0), (.slice A0_1 l0_1.length c0_1)] 26 (0, 0))) ∧ Aside0 (Below w.heap.size w w'))
   case atStart => exact ⟨(0), sd_, H', ⟨Nat.le_refl _⟩, ⟨by (with_reducible repeat (first | refine blk_drewN ?_ _ | refine blk_drew ?_ | refine blk_alloc ?_ _)); exact BK43.out⟩, ⟨ab15_⟩⟩
   case round =>
    clear H'
    try clear c9
    obtain ⟨x3_2, rfl, HA, HK2, BK43, HB⟩ := hrel
    cases gk with
    | zero => exact absurd HA.out (by simp [spec_ProgramValid.l0])
    | succ k2 =>
     have H := HA.out
     clear HA
     simp only [spec_ProgramValid.l0] at H
     by_cases c10 : x3_2 < (l0_1.length : Int)
     ·rw [if_pos c10] at H
      have c10b0 : decide (x3_2 < (l0_1.length : Int)) = true := decide_eq_true c10
      clear c10
      by_cases c11 : 0 ≤ x3_2
      ·rw [if_pos c11] at H
       have c11b0 : decide (0 ≤ x3_2) = true := decide_eq_true c11
       clear c11
       obtain ⟨t44, A49, H⟩ := bsm H
       (try dsimp only at H)
       have A12 := am A49
       clear A49
       by_cases c13 : t44 = true
       ·subst c13
        rw [if_pos rfl] at H
        obtain ⟨t50, A51, H⟩ := bsm H
        (try dsimp only at H)
        have A14 := am A51
        clear A51
        by_cases c15 : t50 = true
        ·subst c15
         rw [if_pos rfl] at H
         have H' := am H
         clear H
         obtain ⟨hcz16_0, hcz16_1, hfz16_0, hfz16_1⟩ := bcf2_ BK43.out
         try go_wp2
         replace BK43 := am (blk_drew BK43.out)
         replace HB := am (below_drew1 HB.out)
         have p52 : 0 ≤ (x3_2 : Int) := of_decide_eq_true asm_
         have q52 : x3_2 < (l0_1.length : Int) := of_decide_eq_true asm_
         obtain ⟨ad52, A52_0, c52_0, e52, hx52_0, hl52_0, hi52_0⟩ := at_L4 HR0_1.out x3_2 p52 q52
         have hw52_0 := hx52_0
         cases e52
         replace hx52_0 := (HB.out.cell (World.block_lt_of_cell? w _ hx52_0)).trans hx52_0
         have HR52_0 := am hi52_0
         have HC52_0 := am hl52_0
         clear hi52_0 hl52_0
         replace p52 := eq_true p52
         replace q52 := eq_true q52
         have p53 : 0 ≤ (x3_2 : Int) := of_decide_eq_true asm_
         have q53 : x3_2 < (l0_1.length : Int) := of_decide_eq_true asm_
         obtain ⟨ad53, A53_0, c53_0, e53, hx53_0, hl53_0, hi53_0⟩ := at_L4 HR0_1.out x3_2 p53 q53
         have hw53_0 := hx53_0
         obtain rfl : ad52 = ad53 := (by injection e53)
         replace hx53_0 := (HB.out.cell (World.block_lt_of_cell? w _ hx53_0)).trans hx53_0
         have HR53_0 := am hi53_0
         have HC53_0 := am hl53_0
         clear hi53_0 hl53_0
         replace p53 := eq_true p53
         replace q53 := eq_true q53
         refine start_ (n := 19) (S := fun w' => w'.cell? ⟨gb43, 0, none⟩ = some (.slice A0_0 l0_0.length c0_0) ∧ w'.cell? ⟨gb43, 1, none⟩ = some (.slice (some ad52) l0_1.length c0_1) ∧ w'.cell? (ad52.add (x3_2).toNat) = some (.slice A52_0 (rd_L4 l0_1 x3_2).length c52_0) ∧ w'.cell? (ad52.add (x3_2).toNat) = some (.slice A53_0 (rd_L4 l0_1 x3_2).length c53_0)) (ds := []) (bz 19 0) (by kernel_rfl) rfl rfl ⟨(blk_cell BK43.out 0).trans rfl, (blk_cell BK43.out 1).trans rfl, ((HB.out.cell (World.block_lt_of_cell? w _ hw52_0)).trans hw52_0), ((HB.out.cell (World.block_lt_of_cell? w _ hw53_0)).trans hw53_0)⟩ (fun hHeld => ?_); refine with_tabW spec_ProgramValid.tab6 spec_ProgramValid.bits6 (fun HT_ HW_ => ?_)
         generalize wr.drew = w17 at BK43 HB HR52_0 HR53_0 hx52_0 hx53_0 hHeld ⊢
         refine pr_ 0 22 (bz 19 1) HT_ ?_
         refine pr_ 2 24 (bz 19 5) HT_ ?_
         refine tk4_ 1 23 (bz 19 7) HT_ HW_ hHeld ?_
         refine pr_ 3 25 (bz 19 15) HT_ ?_
         refine tk4_ 4 26 (bz 19 31) HT_ HW_ hHeld ?_
         refine one_ (i := 5) (N := some 27) (bz 19 63) rfl rfl (one_of HT_.out (by kernel_rfl)) (by decide) (fun K hK => ?_)
         refine goes_ Tryz.func47 (by kernel_rfl) rfl #[.slice A52_0 (rd_L4 l0_1 x3_2).length c52_0] (by rfl) rfl rfl ab1_ ?_
         with_reducible refine (spec_StmtsValid.calls k2 _ _ (rd_L4 l0_1 x3_2) true _ (aC_ (Kd.C_below HR52_0.out HB.out)) HC52_0.out A12.out).mono ?_
         rintro e w18 ⟨rfl, hb⟩
         refine ⟨_, rfl, ?_⟩
         replace BK43 := am (bbl_ BK43.out hb)
         replace HB := am (below_step ab15_ hb)
         (try clear hb)
         (try clear hb2)
         (try clear hk)
         (try clear hi)
         refine hK.out _ _ ⟨(blk_cell BK43.out 0).trans rfl, (blk_cell BK43.out 1).trans rfl, ((HB.out.cell (World.block_lt_of_cell? w _ hw52_0)).trans hw52_0), ((HB.out.cell (World.block_lt_of_cell? w _ hw53_0)).trans hw53_0)⟩ (fun hHeld => ?_)
         clear hK K
         refine norm_ (a' := ?_) ?_ ?_
         rotate_left
         ·show Act.put _ (some 27) _ = _
          simp only [Act.put, List.setIfInBounds_toArray, List.set_cons_zero, List.set_cons_succ, i64_w, i32_w]
          rfl
         refine pr_ 6 28 (bz 19 127) HT_ ?_
         refine pr_ 7 29 (bz 19 255) HT_ ?_
         refine pr_ 8 30 (bz 19 511) HT_ ?_
         refine pr_ 10 32 (bz 19 1535) HT_ ?_
         refine pr_ 13 35 (bz 19 9727) HT_ ?_
         refine tk4_ 9 31 (bz 19 10239) HT_ HW_ hHeld ?_
         refine pr_ 11 33 (bz 19 12287) HT_ ?_
         refine tk4_ 12 34 (bz 19 16383) HT_ HW_ hHeld ?_
         refine tk4_ 14 36 (bz 19 32767) HT_ HW_ hHeld ?_
         refine pr_ 15 37 (bz 19 65535) HT_ ?_
         refine one_ (i := 16) (N := some 38) (bz 19 131071) rfl rfl (one_of HT_.out (by kernel_rfl)) (by decide) (fun K hK => ?_)
         refine goes_ Tryz.func48 (by kernel_rfl) rfl #[.slice A52_0 (rd_L4 l0_1 x3_2).length c52_0, .int .i64 (l0_0.length : Int)] (by rfl) rfl rfl ab1_ ?_
         with_reducible refine (spec_l12Boxes.calls k2 _ _ (rd_L4 l0_1 x3_2) (l0_0.length : Int) true _ (aC_ (Kd.C_below HR52_0.out HB.out)) HC52_0.out A14.out).mono ?_
         rintro e w19 ⟨rfl, hb⟩
         refine ⟨_, rfl, ?_⟩
         replace BK43 := am (bbl_ BK43.out hb)
         replace HB := am (below_step ab15_ hb)
         (try clear hb)
         (try clear hb2)
         (try clear hk)
         (try clear hi)
         refine hK.out _ _ ⟨(blk_cell BK43.out 0).trans rfl, (blk_cell BK43.out 1).trans rfl, ((HB.out.cell (World.block_lt_of_cell? w _ hw52_0)).trans hw52_0), ((HB.out.cell (World.block_lt_of_cell? w _ hw53_0)).trans hw53_0)⟩ (fun hHeld => ?_)
         clear hK K
         refine norm_ (a' := ?_) ?_ ?_
         rotate_left
         ·show Act.put _ (some 38) _ = _
          simp only [Act.put, List.setIfInBounds_toArray, List.set_cons_zero, List.set_cons_succ, i64_w, i32_w]
          rfl
         refine pr_ 17 39 (bz 19 262143) HT_ ?_
         refine pr_ 18 40 (bz 19 524287) HT_ ?_
         refine done_ (done_of HT_.out (by kernel_rfl)) ?_
         try go_wp2
         go_roundg k2
         case measure => have := HJ1.out; have := HK2.out; omega
         case rel => exact ⟨(wrap64 (x3_2 + 1)), sd_, H', ⟨by have := HJ1.out; have := HK2.out; omega⟩, ⟨by (with_reducible repeat (first | refine blk_drewN ?_ _ | refine blk_drew ?_ | refine blk_alloc ?_ _)); exact BK43.out⟩, ⟨ab15_⟩⟩
        replace c15 := Bool.eq_false_iff.mpr c15
        subst c15
        rw [if_neg (show ¬ (false = true) by decide)] at H
        obtain rfl := Option.some.inj H
        obtain ⟨hcz20_0, hcz20_1, hfz20_0, hfz20_1⟩ := bcf2_ BK43.out
        try go_wp2
        replace BK43 := am (blk_drew BK43.out)
        replace HB := am (below_drew1 HB.out)
        have p52 : 0 ≤ (x3_2 : Int) := of_decide_eq_true asm_
        have q52 : x3_2 < (l0_1.length : Int) := of_decide_eq_true asm_
        obtain ⟨ad52, A52_0, c52_0, e52, hx52_0, hl52_0, hi52_0⟩ := at_L4 HR0_1.out x3_2 p52 q52
        have hw52_0 := hx52_0
        cases e52
        replace hx52_0 := (HB.out.cell (World.block_lt_of_cell? w _ hx52_0)).trans hx52_0
        have HR52_0 := am hi52_0
        have HC52_0 := am hl52_0
        clear hi52_0 hl52_0
        replace p52 := eq_true p52
        replace q52 := eq_true q52
        have p53 : 0 ≤ (x3_2 : Int) := of_decide_eq_true asm_
        have q53 : x3_2 < (l0_1.length : Int) := of_decide_eq_true asm_
        obtain ⟨ad53, A53_0, c53_0, e53, hx53_0, hl53_0, hi53_0⟩ := at_L4 HR0_1.out x3_2 p53 q53
        have hw53_0 := hx53_0
        obtain rfl : ad52 = ad53 := (by injection e53)
        replace hx53_0 := (HB.out.cell (World.block_lt_of_cell? w _ hx53_0)).trans hx53_0
        have HR53_0 := am hi53_0
        have HC53_0 := am hl53_0
        clear hi53_0 hl53_0
        replace p53 := eq_true p53
        replace q53 := eq_true q53
        refine start_ (n := 19) (S := fun w' => w'.cell? ⟨gb43, 0, none⟩ = some (.slice A0_0 l0_0.length c0_0) ∧ w'.cell? ⟨gb43, 1, none⟩ = some (.slice (some ad52) l0_1.length c0_1) ∧ w'.cell? (ad52.add (x3_2).toNat) = some (.slice A52_0 (rd_L4 l0_1 x3_2).length c52_0) ∧ w'.cell? (ad52.add (x3_2).toNat) = some (.slice A53_0 (rd_L4 l0_1 x3_2).length c53_0)) (ds := []) (bz 19 0) (by kernel_rfl) rfl rfl ⟨(blk_cell BK43.out 0).trans rfl, (blk_cell BK43.out 1).trans rfl, ((HB.out.cell (World.block_lt_of_cell? w _ hw52_0)).trans hw52_0), ((HB.out.cell (World.block_lt_of_cell? w _ hw53_0)).trans hw53_0)⟩ (fun hHeld => ?_); refine with_tabW spec_ProgramValid.tab6 spec_ProgramValid.bits6 (fun HT_ HW_ => ?_)
        generalize wr.drew = w21 at BK43 HB HR52_0 HR53_0 hx52_0 hx53_0 hHeld ⊢
        refine pr_ 0 22 (bz 19 1) HT_ ?_
        refine pr_ 2 24 (bz 19 5) HT_ ?_
        refine tk4_ 1 23 (bz 19 7) HT_ HW_ hHeld ?_
        refine pr_ 3 25 (bz 19 15) HT_ ?_
        refine tk4_ 4 26 (bz 19 31) HT_ HW_ hHeld ?_
        refine one_ (i := 5) (N := some 27) (bz 19 63) rfl rfl (one_of HT_.out (by kernel_rfl)) (by decide) (fun K hK => ?_)
        refine goes_ Tryz.func47 (by kernel_rfl) rfl #[.slice A52_0 (rd_L4 l0_1 x3_2).length c52_0] (by rfl) rfl rfl ab1_ ?_
        with_reducible refine (spec_StmtsValid.calls k2 _ _ (rd_L4 l0_1 x3_2) true _ (aC_ (Kd.C_below HR52_0.out HB.out)) HC52_0.out A12.out).mono ?_
        rintro e w22 ⟨rfl, hb⟩
        refine ⟨_, rfl, ?_⟩
        replace BK43 := am (bbl_ BK43.out hb)
        replace HB := am (below_step ab15_ hb)
        (try clear hb)
        (try clear hb2)
        (try clear hk)
        (try clear hi)
        refine hK.out _ _ ⟨(blk_cell BK43.out 0).trans rfl, (blk_cell BK43.out 1).trans rfl, ((HB.out.cell (World.block_lt_of_cell? w _ hw52_0)).trans hw52_0), ((HB.out.cell (World.block_lt_of_cell? w _ hw53_0)).trans hw53_0)⟩ (fun hHeld => ?_)
        clear hK K
        refine norm_ (a' := ?_) ?_ ?_
        rotate_left
        ·show Act.put _ (some 27) _ = _
         simp only [Act.put, List.setIfInBounds_toArray, List.set_cons_zero, List.set_cons_succ, i64_w, i32_w]
         rfl
        refine pr_ 6 28 (bz 19 127) HT_ ?_
        refine pr_ 7 29 (bz 19 255) HT_ ?_
        refine pr_ 8 30 (bz 19 511) HT_ ?_
        refine pr_ 10 32 (bz 19 1535) HT_ ?_
        refine pr_ 13 35 (bz 19 9727) HT_ ?_
        refine tk4_ 9 31 (bz 19 10239) HT_ HW_ hHeld ?_
        refine pr_ 11 33 (bz 19 12287) HT_ ?_
        refine tk4_ 12 34 (bz 19 16383) HT_ HW_ hHeld ?_
        refine tk4_ 14 36 (bz 19 32767) HT_ HW_ hHeld ?_
        refine pr_ 15 37 (bz 19 65535) HT_ ?_
        refine one_ (i := 16) (N := some 38) (bz 19 131071) rfl rfl (one_of HT_.out (by kernel_rfl)) (by decide) (fun K hK => ?_)
        refine goes_ Tryz.func48 (by kernel_rfl) rfl #[.slice A52_0 (rd_L4 l0_1 x3_2).length c52_0, .int .i64 (l0_0.length : Int)] (by rfl) rfl rfl ab1_ ?_
        with_reducible refine (spec_l12Boxes.calls k2 _ _ (rd_L4 l0_1 x3_2) (l0_0.length : Int) false _ (aC_ (Kd.C_below HR52_0.out HB.out)) HC52_0.out A14.out).mono ?_
        rintro e w23 ⟨rfl, hb⟩
        refine ⟨_, rfl, ?_⟩
        replace BK43 := am (bbl_ BK43.out hb)
        replace HB := am (below_step ab15_ hb)
        (try clear hb)
        (try clear hb2)
        (try clear hk)
        (try clear hi)
        refine hK.out _ _ ⟨(blk_cell BK43.out 0).trans rfl, (blk_cell BK43.out 1).trans rfl, ((HB.out.cell (World.block_lt_of_cell? w _ hw52_0)).trans hw52_0), ((HB.out.cell (World.block_lt_of_cell? w _ hw53_0)).trans hw53_0)⟩ (fun hHeld => ?_)
        clear hK K
        refine norm_ (a' := ?_) ?_ ?_
        rotate_left
        ·show Act.put _ (some 38) _ = _
         simp only [Act.put, List.setIfInBounds_toArray, List.set_cons_zero, List.set_cons_succ, i64_w, i32_w]
         rfl
        refine pr_ 17 39 (bz 19 262143) HT_ ?_
        refine pr_ 18 40 (bz 19 524287) HT_ ?_
        refine done_ (done_of HT_.out (by kernel_rfl)) ?_
        try go_wp2
        go_ret
        exact ⟨rr_, ab15_⟩
       replace c13 := Bool.eq_false_iff.mpr c13
       subst c13
       rw [if_neg (show ¬ (false = true) by decide)] at H
       obtain rfl := Option.some.inj H
       obtain ⟨hcz24_0, hcz24_1, hfz24_0, hfz24_1⟩ := bcf2_ BK43.out
       try go_wp2
       replace BK43 := am (blk_drew BK43.out)
       replace HB := am (below_drew1 HB.out)
       have p52 : 0 ≤ (x3_2 : Int) := of_decide_eq_true asm_
       have q52 : x3_2 < (l0_1.length : Int) := of_decide_eq_true asm_
       obtain ⟨ad52, A52_0, c52_0, e52, hx52_0, hl52_0, hi52_0⟩ := at_L4 HR0_1.out x3_2 p52 q52
       have hw52_0 := hx52_0
       cases e52
       replace hx52_0 := (HB.out.cell (World.block_lt_of_cell? w _ hx52_0)).trans hx52_0
       have HR52_0 := am hi52_0
       have HC52_0 := am hl52_0
       clear hi52_0 hl52_0
       replace p52 := eq_true p52
       replace q52 := eq_true q52
       refine start_ (n := 19) (S := fun w' => w'.cell? ⟨gb43, 0, none⟩ = some (.slice A0_0 l0_0.length c0_0) ∧ w'.cell? ⟨gb43, 1, none⟩ = some (.slice (some ad52) l0_1.length c0_1) ∧ w'.cell? (ad52.add (x3_2).toNat) = some (.slice A52_0 (rd_L4 l0_1 x3_2).length c52_0)) (ds := []) (bz 19 0) (by kernel_rfl) rfl rfl ⟨(blk_cell BK43.out 0).trans rfl, (blk_cell BK43.out 1).trans rfl, ((HB.out.cell (World.block_lt_of_cell? w _ hw52_0)).trans hw52_0)⟩ (fun hHeld => ?_); refine with_tabW spec_ProgramValid.tab6 spec_ProgramValid.bits6 (fun HT_ HW_ => ?_)
       generalize wr.drew = w25 at BK43 HB HR52_0 hx52_0 hHeld ⊢
       refine pr_ 0 22 (bz 19 1) HT_ ?_
       refine pr_ 2 24 (bz 19 5) HT_ ?_
       refine tk3_ 1 23 (bz 19 7) HT_ HW_ hHeld ?_
       refine pr_ 3 25 (bz 19 15) HT_ ?_
       refine tk3_ 4 26 (bz 19 31) HT_ HW_ hHeld ?_
       refine one_ (i := 5) (N := some 27) (bz 19 63) rfl rfl (one_of HT_.out (by kernel_rfl)) (by decide) (fun K hK => ?_)
       refine goes_ Tryz.func47 (by kernel_rfl) rfl #[.slice A52_0 (rd_L4 l0_1 x3_2).length c52_0] (by rfl) rfl rfl ab1_ ?_
       with_reducible refine (spec_StmtsValid.calls k2 _ _ (rd_L4 l0_1 x3_2) false _ (aC_ (Kd.C_below HR52_0.out HB.out)) HC52_0.out A12.out).mono ?_
       rintro e w26 ⟨rfl, hb⟩
       refine ⟨_, rfl, ?_⟩
       replace BK43 := am (bbl_ BK43.out hb)
       replace HB := am (below_step ab15_ hb)
       (try clear hb)
       (try clear hb2)
       (try clear hk)
       (try clear hi)
       refine hK.out _ _ ⟨(blk_cell BK43.out 0).trans rfl, (blk_cell BK43.out 1).trans rfl, ((HB.out.cell (World.block_lt_of_cell? w _ hw52_0)).trans hw52_0)⟩ (fun hHeld => ?_)
       clear hK K
       refine norm_ (a' := ?_) ?_ ?_
       rotate_left
       ·show Act.put _ (some 27) _ = _
        simp only [Act.put, List.setIfInBounds_toArray, List.set_cons_zero, List.set_cons_succ, i64_w, i32_w]
        rfl
       refine pr_ 6 28 (bz 19 127) HT_ ?_
       refine pr_ 7 29 (bz 19 255) HT_ ?_
       refine pu_ 8 30 (bz 19 511) HT_ ?_
       refine pu_ 9 31 (bz 19 1023) HT_ ?_
       refine pu_ 10 32 (bz 19 2047) HT_ ?_
       refine pu_ 11 33 (bz 19 4095) HT_ ?_
       refine pu_ 12 34 (bz 19 8191) HT_ ?_
       refine pu_ 13 35 (bz 19 16383) HT_ ?_
       refine pu_ 14 36 (bz 19 32767) HT_ ?_
       refine pu_ 15 37 (bz 19 65535) HT_ ?_
       refine pu_ 16 38 (bz 19 131071) HT_ ?_
       refine pu_ 17 39 (bz 19 262143) HT_ ?_
       refine pr_ 18 40 (bz 19 524287) HT_ ?_
       refine done_ (done_of HT_.out (by kernel_rfl)) ?_
       try go_wp2
       go_ret
       exact ⟨rr_, ab15_⟩
      rw [if_neg c11] at H
      exact absurd H (by simp)
     rw [if_neg c10] at H
     have c10b0 : decide (x3_2 < (l0_1.length : Int)) = false := decide_eq_false c10
     clear c10
     obtain rfl := Option.some.inj H
     obtain ⟨hcz27_0, hcz27_1, hfz27_0, hfz27_1⟩ := bcf2_ BK43.out
     go_wp2
     go_ret
     exact ⟨rr_, ab15_⟩
theorem spec_l6Dec.mono_l : ∀ k, (∀ y0, LeO (spec_l6Dec.f k y0) (spec_l6Dec.f (k + 1) y0))
 | 0 => fun _ r h => by simp [spec_l6Dec.f] at h
 | k + 1 => by
  have ih0 := spec_l6Dec.mono_l k
  ·intro y0
   unfold spec_l6Dec.f
   exact mo_
theorem spec_l6Dec.mono : ∀ a0 k, LeO (spec_l6Dec.f k a0) (spec_l6Dec.f (k + 1) a0) := by
 intro a0 k
 have ih0 := spec_l6Dec.mono_l k
 exact ih0 a0
def spec_l6Dec.T7 : Bool × List (List Nat × List Nat) := (true, [([], []), ([0], [0]), ([1], [1]), ([], []), ([3], [3]), ([4], [4]), ([5], [5]), ([6], [6]), ([7], [7]), ([2, 8], [2, 8]), ([9, 2, 0, 1, 2, 3, 4, 5, 6, 7, 8, 9], [9])])
def spec_l6Dec.B7 : List Nat := [0, 1, 3, 0, 8, 24, 56, 120, 248, 511, 1023]
theorem spec_l6Dec.tab7 : rtab .any (opsOf Tryz.f24 7) = spec_l6Dec.T7 := by kernel_rfl
theorem spec_l6Dec.bits7 : waitsOk spec_l6Dec.T7.2 spec_l6Dec.B7 = true := by kernel_rfl
theorem spec_l6Dec.calls (k : Nat) : ∀ (a0 : Int) (r : ByteArray) (w : World) (h : spec_l6Dec.f k a0 = some r),
  Calls Tryz.prog 24 #[.int .i64 a0] w fun e w' => e = .returned (.string r) ∧ Below w.heap.size w w' := by
 induction k using Nat.strongRecOn with
 | _ k ih =>
 intro a0 r w h
 cases k with
 | zero => exact absurd h (by simp [spec_l6Dec.f])
 | succ k =>
 simp only [spec_l6Dec.f] at h
 have HB := am (Below.refl w.heap.size w)
 have H : (if a0 < (-9223372036854775807) then (some (⟨#[45, 57, 50, 50, 51, 51, 55, 50, 48, 51, 54, 56, 53, 52, 55, 55, 53, 56, 48, 56]⟩ : ByteArray)) else (if a0 < 0 then ((spec_l6Dec.f k (wrap64 (-a0))).bind fun t28 => (if 1 + t28.size ≤ 9223372036854775807 then (some ((⟨#[45]⟩ : ByteArray) ++ t28)) else (none))) else (if a0 < 10 then (some (strOfNums (([(wrap64 (48 + a0)) % 256] : List Int)))) else ((spec_l6Dec.f k (wrap64 (Int.tdiv a0 10))).bind fun t29 => ((some (([(wrap64 (48 + (Int.tmod a0 10))) % 256] : List Int) : List Int)).bind fun y30 => (if t29.size + (strOfNums y30).size ≤ 9223372036854775807 then (some (t29 ++ (strOfNums y30))) else (none))))))) = some r := h
 clear h
 by_cases c2 : a0 < (-9223372036854775807)
 ·rw [if_pos c2] at H
  have c2b0 : decide (a0 < (-9223372036854775807)) = true := decide_eq_true c2
  clear c2
  obtain rfl := Option.some.inj H
  go_enter Tryz.func24, Tryz.ntmps24
  go_wp2
  go_ret
  exact ⟨rr_, ab2_⟩
 rw [if_neg c2] at H
 have c2b0 : decide (a0 < (-9223372036854775807)) = false := decide_eq_false c2
 clear c2
 by_cases c3 : a0 < 0
 ·rw [if_pos c3] at H
  have c3b0 : decide (a0 < 0) = true := decide_eq_true c3
  clear c3
  obtain ⟨t28, A4, H⟩ := bsa H
  (try dsimp only at H)
  by_cases c5 : 1 + t28.size ≤ 9223372036854775807
  ·rw [if_pos c5] at H
   have c5b0 := eq_true c5
   have c5b1 : decide (1 + t28.size ≤ 9223372036854775807) = true := decide_eq_true c5
   try have c5b2 : (9223372036854775807 < 1 + t28.size) = False := eq_false (Nat.not_lt.2 c5)
   obtain rfl := Option.some.inj H
   go_enter Tryz.func24, Tryz.ntmps24
   go_wp2_with (first | ((with_reducible refine gate_callee (f := 24) rfl ?_); refine gl_ 9 Tryz.func24 #[.int .i64 (wrap64 (-a0))] ?_; (with_reducible refine (ih k (by omega) (wrap64 (-a0)) t28 _ A4.out).mono ?_); rintro e w6 ⟨rfl, hb⟩; refine ⟨_, rfl, ?_⟩; replace HB := am (below_step ab2_ hb); (try clear hb)))
   go_ret
   exact ⟨rr_, ab2_⟩
  rw [if_neg c5] at H
  exact absurd H (by simp)
 rw [if_neg c3] at H
 have c3b0 : decide (a0 < 0) = false := decide_eq_false c3
 clear c3
 by_cases c7 : a0 < 10
 ·rw [if_pos c7] at H
  have c7b0 : decide (a0 < 10) = true := decide_eq_true c7
  clear c7
  obtain ⟨y31, hy_⟩ : ∃ y_ : List Int, y_ = (([(wrap64 (48 + a0)) % 256] : List Int)) := ⟨_, rfl⟩
  replace H : (some (strOfNums y31)) = some r := rx_
  have Ny31 := am hy_
  clear hy_
  obtain rfl := Option.some.inj H
  go_enter Tryz.func24, Tryz.ntmps24
  go_wp2_with (first | ((with_reducible refine gate_dst (N := 16) rfl ?_); refine Kd.R_lit (Kd.int .u8) _ 5 rfl (N := 16) rfl (xs := ([(wrap64 (48 + a0)) % 256] : List Int)) (inner := [.int .u8 ((wrap64 (48 + a0)) % 256)]) (ok := fun _ => True) (okp := fun _ => True) rn_ ?hp (fun _ hk => hk) trivial (Below.refl _ _) (Nat.le_refl _) (by simp) ?_; (case hp => exact (Reps.one (show Kd.M (Kd.int .u8) _ _ _ ((wrap64 (48 + a0)) % 256) [.int .u8 ((wrap64 (48 + a0)) % 256)] from rfl) (Reps.none _ _))); intro v33 w8 ho9 hb hg_ hnew_; clear hg_ hnew_; (first | rw [← Ny31.out] at ho9 | (simp only [Int.reduceToNat] at ho9; rw [← Ny31.out] at ho9)); have HO34 := am (Kd.R_lower ho9 (below_size ab2_)); replace HB := am (below_step ab2_ hb); clear hb ho9; have hcv10 := own_string (P := Tryz.prog) Tryz.underlying22 Tryz.underlying5 Tryz.underlying9 (Kd.own_of_R HO34.out)))
  go_ret
  exact ⟨rr_, ab2_⟩
 rw [if_neg c7] at H
 have c7b0 : decide (a0 < 10) = false := decide_eq_false c7
 clear c7
 obtain ⟨t29, A35, H⟩ := bsm H
 (try dsimp only at H)
 have A11 := am A35
 clear A35
 obtain ⟨y30, hy_⟩ : ∃ y_ : List Int, y_ = (([(wrap64 (48 + (Int.tmod a0 10))) % 256] : List Int)) := ⟨_, rfl⟩
 replace H : (if t29.size + (strOfNums y30).size ≤ 9223372036854775807 then (some (t29 ++ (strOfNums y30))) else (none)) = some r := rx_
 have Ny30 := am hy_
 clear hy_
 by_cases c12 : t29.size + (strOfNums y30).size ≤ 9223372036854775807
 ·rw [if_pos c12] at H
  have c12b0 := eq_true c12
  have c12b1 : decide (t29.size + (strOfNums y30).size ≤ 9223372036854775807) = true := decide_eq_true c12
  try have c12b2 : (9223372036854775807 < t29.size + (strOfNums y30).size) = False := eq_false (Nat.not_lt.2 c12)
  obtain rfl := Option.some.inj H
  go_enter Tryz.func24, Tryz.ntmps24
  try go_wp2
  replace HB := am (below_drew1 HB.out)
  refine start_ (n := 11) (S := fun w' => True) (ds := []) (bz 11 0) (by kernel_rfl) rfl rfl trivial (fun hHeld => ?_); refine with_tabW spec_l6Dec.tab7 spec_l6Dec.bits7 (fun HT_ HW_ => ?_)
  generalize w.drew = w13 at HB hHeld ⊢
  refine pr_ 0 18 (bz 11 1) HT_ ?_
  refine pr_ 1 19 (bz 11 3) HT_ ?_
  refine pr_ 3 21 (bz 11 11) HT_ ?_
  refine pr_ 4 22 (bz 11 27) HT_ ?_
  refine pr_ 5 23 (bz 11 59) HT_ ?_
  refine pr_ 6 24 (bz 11 123) HT_ ?_
  refine join_ (σ := Value) 2 (bz 11 511) (fun s_ => [(20, .string t29), (25, s_), (26, .string (strOfNums y30))]) (fun s_ w' => (Kd.R (Kd.int .u8) 5 w' w.heap.size (fun _ => True) s_ y30) ∧ (Below w.heap.size w w')) ?_ ?_
  rotate_left
  ·intro hCont
   refine two_ (i := 2) (j := 7) (Ni := some 20) (Nj := some 25) (bz 11 127) (bz 11 251) rfl rfl rfl rfl (two_of HT_.out (by kernel_rfl)) (by decide) (by decide) (fun K hK => ?_) (fun K hK => ?_)
   ·skip
    refine goes_ Tryz.func24 (by kernel_rfl) rfl #[.int .i64 (wrap64 (Int.tdiv a0 10))] (by rfl) rfl rfl ab1_ ?_
    with_reducible refine (ih k (by omega) (wrap64 (Int.tdiv a0 10)) t29 _ A11.out).mono ?_
    rintro e w14 ⟨rfl, hb⟩
    refine ⟨_, rfl, ?_⟩
    replace HB := am (below_step ab2_ hb)
    (try clear hb)
    (try clear hb2)
    (try clear hk)
    (try clear hi)
    refine hK.out _ _ trivial (fun hHeld => ?_)
    clear hK K
    refine norm_ (a' := ?_) ?_ ?_
    rotate_left
    ·show Act.put _ (some 20) _ = _
     simp only [Act.put, List.setIfInBounds_toArray, List.set_cons_zero, List.set_cons_succ, i64_w, i32_w]
     rfl
    refine one_ (i := 7) (N := some 25) (bz 11 255) rfl rfl (one_of HT_.out (by kernel_rfl)) (by decide) (fun K hK => ?_)
    refine Kd.R_lit_step (Kd.int .u8) _ 5 rfl (N := 25) rfl (xs := ([(wrap64 (48 + (Int.tmod a0 10))) % 256] : List Int)) (inner := [.int .u8 ((wrap64 (48 + (Int.tmod a0 10))) % 256)]) (ok := fun _ => True) (okp := fun _ => True) rn_ ?hp (fun _ hk => hk) trivial (Below.refl _ _) (Nat.le_refl _) (by simp) ?_; (case hp => exact (Reps.one (show Kd.M (Kd.int .u8) _ _ _ ((wrap64 (48 + (Int.tmod a0 10))) % 256) [.int .u8 ((wrap64 (48 + (Int.tmod a0 10))) % 256)] from rfl) (Reps.none _ _)))
    intro v36 w15 ho16 hb hg_ hnew_
    clear hg_ hnew_
    (first | rw [← Ny30.out] at ho16 | (simp only [Int.reduceToNat] at ho16; rw [← Ny30.out] at ho16))
    have HO37 := am (Kd.R_lower ho16 (below_size ab2_))
    replace HB := am (below_step ab2_ hb)
    clear hb ho16
    refine hK.out _ _ trivial (fun hHeld => ?_)
    clear hK K
    refine norm_ (a' := ?_) ?_ ?_
    rotate_left
    ·show Act.put _ (some 25) _ = _
     simp only [Act.put, List.setIfInBounds_toArray, List.set_cons_zero, List.set_cons_succ, i64_w, i32_w]
     rfl
    refine one_ (i := 8) (N := some 26) (bz 11 511) rfl rfl (one_of HT_.out (by kernel_rfl)) (by decide) (fun K hK => ?_)
    have hcv17 := own_string (P := Tryz.prog) Tryz.underlying22 Tryz.underlying5 Tryz.underlying9 (Kd.own_of_R HO37.out)
    refine value_ (w1 := ?_) (v := ?_) (by rfl) rfl ?_ ?_
    rotate_left 2
    ·go_simp
     constructor
     ·rfl
     ·rfl
    clear hcv17
    refine hK.out _ _ trivial (fun hHeld => ?_)
    clear hK K
    refine norm_ (a' := ?_) ?_ ?_
    rotate_left
    ·show Act.put _ (some 26) _ = _
     simp only [Act.put, List.setIfInBounds_toArray, List.set_cons_zero, List.set_cons_succ, i64_w, i32_w]
     rfl
    exact norm_ (by simp only [putAll, Act.put, List.setIfInBounds_toArray, List.set_cons_zero, List.set_cons_succ]) (hCont (v36) _ ⟨(aR_ HO37.out), ab2_⟩)
   ·skip
    refine Kd.R_lit_step (Kd.int .u8) _ 5 rfl (N := 25) rfl (xs := ([(wrap64 (48 + (Int.tmod a0 10))) % 256] : List Int)) (inner := [.int .u8 ((wrap64 (48 + (Int.tmod a0 10))) % 256)]) (ok := fun _ => True) (okp := fun _ => True) rn_ ?hp (fun _ hk => hk) trivial (Below.refl _ _) (Nat.le_refl _) (by simp) ?_; (case hp => exact (Reps.one (show Kd.M (Kd.int .u8) _ _ _ ((wrap64 (48 + (Int.tmod a0 10))) % 256) [.int .u8 ((wrap64 (48 + (Int.tmod a0 10))) % 256)] from rfl) (Reps.none _ _)))
    intro v36 w14 ho15 hb hg_ hnew_
    clear hg_ hnew_
    (first | rw [← Ny30.out] at ho15 | (simp only [Int.reduceToNat] at ho15; rw [← Ny30.out] at ho15))
    have HO37 := am (Kd.R_lower ho15 (below_size ab2_))
    replace HB := am (below_step ab2_ hb)
    clear hb ho15
    refine hK.out _ _ trivial (fun hHeld => ?_)
    clear hK K
    refine norm_ (a' := ?_) ?_ ?_
    rotate_left
    ·show Act.put _ (some 25) _ = _
     simp only [Act.put, List.setIfInBounds_toArray, List.set_cons_zero, List.set_cons_succ, i64_w, i32_w]
     rfl
    refine two_ (i := 2) (j := 8) (Ni := some 20) (Nj := some 26) (bz 11 255) (bz 11 507) rfl rfl rfl rfl (two_of HT_.out (by kernel_rfl)) (by decide) (by decide) (fun K hK => ?_) (fun K hK => ?_)
    ·skip
     refine goes_ Tryz.func24 (by kernel_rfl) rfl #[.int .i64 (wrap64 (Int.tdiv a0 10))] (by rfl) rfl rfl ab1_ ?_
     with_reducible refine (ih k (by omega) (wrap64 (Int.tdiv a0 10)) t29 _ A11.out).mono ?_
     rintro e w16 ⟨rfl, hb⟩
     refine ⟨_, rfl, ?_⟩
     replace HO37 := am (Kd.R_below (aR_ HO37.out) hb)
     replace HB := am (below_step ab2_ hb)
     (try clear hb)
     (try clear hb2)
     (try clear hk)
     (try clear hi)
     refine hK.out _ _ trivial (fun hHeld => ?_)
     clear hK K
     refine norm_ (a' := ?_) ?_ ?_
     rotate_left
     ·show Act.put _ (some 20) _ = _
      simp only [Act.put, List.setIfInBounds_toArray, List.set_cons_zero, List.set_cons_succ, i64_w, i32_w]
      rfl
     refine one_ (i := 8) (N := some 26) (bz 11 511) rfl rfl (one_of HT_.out (by kernel_rfl)) (by decide) (fun K hK => ?_)
     have hcv17 := own_string (P := Tryz.prog) Tryz.underlying22 Tryz.underlying5 Tryz.underlying9 (Kd.own_of_R HO37.out)
     refine value_ (w1 := ?_) (v := ?_) (by rfl) rfl ?_ ?_
     rotate_left 2
     ·go_simp
      constructor
      ·rfl
      ·rfl
     clear hcv17
     refine hK.out _ _ trivial (fun hHeld => ?_)
     clear hK K
     refine norm_ (a' := ?_) ?_ ?_
     rotate_left
     ·show Act.put _ (some 26) _ = _
      simp only [Act.put, List.setIfInBounds_toArray, List.set_cons_zero, List.set_cons_succ, i64_w, i32_w]
      rfl
     exact norm_ (by simp only [putAll, Act.put, List.setIfInBounds_toArray, List.set_cons_zero, List.set_cons_succ]) (hCont (v36) _ ⟨(aR_ HO37.out), ab2_⟩)
    ·skip
     have hcv16 := own_string (P := Tryz.prog) Tryz.underlying22 Tryz.underlying5 Tryz.underlying9 (Kd.own_of_R HO37.out)
     refine value_ (w1 := ?_) (v := ?_) (by rfl) rfl ?_ ?_
     rotate_left 2
     ·go_simp
      constructor
      ·rfl
      ·rfl
     clear hcv16
     refine hK.out _ _ trivial (fun hHeld => ?_)
     clear hK K
     refine norm_ (a' := ?_) ?_ ?_
     rotate_left
     ·show Act.put _ (some 26) _ = _
      simp only [Act.put, List.setIfInBounds_toArray, List.set_cons_zero, List.set_cons_succ, i64_w, i32_w]
      rfl
     refine one_ (i := 2) (N := some 20) (bz 11 511) rfl rfl (one_of HT_.out (by kernel_rfl)) (by decide) (fun K hK => ?_)
     refine goes_ Tryz.func24 (by kernel_rfl) rfl #[.int .i64 (wrap64 (Int.tdiv a0 10))] (by rfl) rfl rfl ab1_ ?_
     with_reducible refine (ih k (by omega) (wrap64 (Int.tdiv a0 10)) t29 _ A11.out).mono ?_
     rintro e w17 ⟨rfl, hb⟩
     refine ⟨_, rfl, ?_⟩
     replace HO37 := am (Kd.R_below (aR_ HO37.out) hb)
     replace HB := am (below_step ab2_ hb)
     (try clear hb)
     (try clear hb2)
     (try clear hk)
     (try clear hi)
     refine hK.out _ _ trivial (fun hHeld => ?_)
     clear hK K
     refine norm_ (a' := ?_) ?_ ?_
     rotate_left
     ·show Act.put _ (some 20) _ = _
      simp only [Act.put, List.setIfInBounds_toArray, List.set_cons_zero, List.set_cons_succ, i64_w, i32_w]
      rfl
     exact norm_ (by simp only [putAll, Act.put, List.setIfInBounds_toArray, List.set_cons_zero, List.set_cons_succ]) (hCont (v36) _ ⟨(aR_ HO37.out), ab2_⟩)
  rintro v36 w18 ⟨h0_, h1_⟩
  have HO37 : Aside0 (Kd.R (Kd.int .u8) 5 w18 w.heap.size (fun _ => True) v36 y30) := ⟨h0_⟩
  replace HB : Aside0 (Below w.heap.size w w18) := ⟨h1_⟩
  clear h0_ h1_
  have hHeld := trivial
  refine norm_ (a' := ?_) ?_ ?_
  rotate_left
  ·simp only [putAll, Act.put, List.setIfInBounds_toArray, List.set_cons_zero, List.set_cons_succ]
   rfl
  refine pr_ 9 27 (bz 11 1023) HT_ ?_
  refine pr_ 10 2 (bz 11 2047) HT_ ?_
  refine done_ (done_of HT_.out (by kernel_rfl)) ?_
  try go_wp2
  go_ret
  exact ⟨rr_, ab2_⟩
 rw [if_neg c12] at H
 exact absurd H (by simp)
theorem spec_l5Name.calls (a0 : Int) (r : ByteArray) (w : World) (h : spec_l5Name.f a0 = some r) :
  Calls Tryz.prog 73 #[.int .i64 a0] w fun e w' => e = .returned (.string r) ∧ Below w.heap.size w w' := by
 have HB := am (Below.refl w.heap.size w)
 have H : (some (strOfNums (([(wrap64 (97 + a0)) % 256] : List Int)))) = some r := h
 clear h
 obtain ⟨y20, hy_⟩ : ∃ y_ : List Int, y_ = (([(wrap64 (97 + a0)) % 256] : List Int)) := ⟨_, rfl⟩
 replace H : (some (strOfNums y20)) = some r := rx_
 have Ny20 := am hy_
 clear hy_
 obtain rfl := Option.some.inj H
 go_enter Tryz.func73, Tryz.ntmps73
 go_wp2_with (first | ((with_reducible refine gate_dst (N := 6) rfl ?_); refine Kd.R_lit (Kd.int .u8) _ 5 rfl (N := 6) rfl (xs := ([(wrap64 (97 + a0)) % 256] : List Int)) (inner := [.int .u8 ((wrap64 (97 + a0)) % 256)]) (ok := fun _ => True) (okp := fun _ => True) rn_ ?hp (fun _ hk => hk) trivial (Below.refl _ _) (Nat.le_refl _) (by simp) ?_; (case hp => exact (Reps.one (show Kd.M (Kd.int .u8) _ _ _ ((wrap64 (97 + a0)) % 256) [.int .u8 ((wrap64 (97 + a0)) % 256)] from rfl) (Reps.none _ _))); intro v21 w2 ho3 hb hg_ hnew_; clear hg_ hnew_; (first | rw [← Ny20.out] at ho3 | (simp only [Int.reduceToNat] at ho3; rw [← Ny20.out] at ho3)); have HO23 := am (Kd.R_lower ho3 (below_size ab2_)); replace HB := am (below_step ab2_ hb); clear hb ho3; have hcv4 := own_string (P := Tryz.prog) Tryz.underlying22 Tryz.underlying5 Tryz.underlying9 (Kd.own_of_R HO23.out)))
 go_ret
 exact ⟨rr_, ab2_⟩
theorem spec_OpLevel.calls (a0 : Int) (r : Int) (w : World) (h : spec_OpLevel.f a0 = some r) :
  Calls Tryz.prog 94 #[.int .i64 a0] w fun e w' => e = .returned (.int .i64 r) ∧ Below w.heap.size w w' := by
 have HB := am (Below.refl w.heap.size w)
 have H : ((spec_OpValid.f a0).bind fun t21 => (if t21 = true then ((some (([1, 2, 3, 4, 5, 6, 6, 7, 7, 8, 8, 8] : List Int) : List Int)).bind fun y22 => (if 0 ≤ (wrap64 (a0 - 1)) then (if (wrap64 (a0 - 1)) < (y22.length : Int) then (some (rd y22 (wrap64 (a0 - 1)))) else (none)) else (none))) else (some 0))) = some r := h
 clear h
 obtain ⟨t21, A2, H⟩ := bsa H
 (try dsimp only at H)
 by_cases c3 : t21 = true
 ·subst c3
  rw [if_pos rfl] at H
  obtain ⟨y22, hy_⟩ : ∃ y_ : List Int, y_ = (([1, 2, 3, 4, 5, 6, 6, 7, 7, 8, 8, 8] : List Int)) := ⟨_, rfl⟩
  replace H : (if 0 ≤ (wrap64 (a0 - 1)) then (if (wrap64 (a0 - 1)) < (y22.length : Int) then (some (rd y22 (wrap64 (a0 - 1)))) else (none)) else (none)) = some r := rx_
  have Ny22 := am hy_
  clear hy_
  obtain ⟨ji4, hji4⟩ : ∃ j_ : Int, (wrap64 (a0 - 1)) = j_ := ⟨_, rfl⟩
  replace H : (if 0 ≤ (ji4) then (if (ji4) < (y22.length : Int) then (some (rd y22 (ji4))) else (none)) else (none)) = some r := by first | (rw [hji4] at H; exact H) | (simp only [hji4] at H ⊢; exact H)
  (try rw [hji4] at A2)
  have hji4w : (IntKind.i64.wrap (a0 - 1)) = ji4 := (i64_w _).trans hji4
  by_cases c5 : 0 ≤ (ji4)
  ·rw [if_pos c5] at H
   have c5b0 : decide (0 ≤ (ji4)) = true := decide_eq_true c5
   clear c5
   by_cases c6 : (ji4) < (y22.length : Int)
   ·rw [if_pos c6] at H
    have c6b0 : decide ((ji4) < (y22.length : Int)) = true := decide_eq_true c6
    clear c6
    obtain rfl := Option.some.inj H
    go_enter Tryz.func94, Tryz.ntmps94
    go_wp2_with (first | ((with_reducible refine gate_callee (f := 122) rfl ?_); refine gl_ 4 Tryz.func122 #[.int .i64 a0] ?_; (with_reducible refine (spec_OpValid.calls a0 true _ A2.out).mono ?_); rintro e w' ⟨rfl, ⟨nd, rfl⟩⟩; refine ⟨_, rfl, ?_⟩) | ((with_reducible refine gate_dst (N := 6) rfl ?_); refine Kd.R_lit (Kd.int .i64) _ 3 rfl (N := 6) rfl (xs := ([1, 2, 3, 4, 5, 6, 6, 7, 7, 8, 8, 8] : List Int)) (inner := [.int .i64 1, .int .i64 2, .int .i64 3, .int .i64 4, .int .i64 5, .int .i64 6, .int .i64 6, .int .i64 7, .int .i64 7, .int .i64 8, .int .i64 8, .int .i64 8]) (ok := fun _ => True) (okp := fun _ => True) rn_ ?hp (fun _ hk => hk) trivial (Below.refl _ _) (Nat.le_refl _) (by simp) ?_; (case hp => exact (Reps.one (show Kd.M (Kd.int .i64) _ _ _ 1 [.int .i64 1] from rfl) (Reps.one (show Kd.M (Kd.int .i64) _ _ _ 2 [.int .i64 2] from rfl) (Reps.one (show Kd.M (Kd.int .i64) _ _ _ 3 [.int .i64 3] from rfl) (Reps.one (show Kd.M (Kd.int .i64) _ _ _ 4 [.int .i64 4] from rfl) (Reps.one (show Kd.M (Kd.int .i64) _ _ _ 5 [.int .i64 5] from rfl) (Reps.one (show Kd.M (Kd.int .i64) _ _ _ 6 [.int .i64 6] from rfl) (Reps.one (show Kd.M (Kd.int .i64) _ _ _ 6 [.int .i64 6] from rfl) (Reps.one (show Kd.M (Kd.int .i64) _ _ _ 7 [.int .i64 7] from rfl) (Reps.one (show Kd.M (Kd.int .i64) _ _ _ 7 [.int .i64 7] from rfl) (Reps.one (show Kd.M (Kd.int .i64) _ _ _ 8 [.int .i64 8] from rfl) (Reps.one (show Kd.M (Kd.int .i64) _ _ _ 8 [.int .i64 8] from rfl) (Reps.one (show Kd.M (Kd.int .i64) _ _ _ 8 [.int .i64 8] from rfl) (Reps.none _ _)))))))))))))); intro v23 w7 ho8 hb hg_ hnew_; clear hg_ hnew_; (first | rw [← Ny22.out] at ho8 | (simp only [Int.reduceToNat] at ho8; rw [← Ny22.out] at ho8)); have HO24 := am (Kd.R_lower ho8 (below_size ab2_)); replace HB := am (below_step ab2_ hb); clear hb ho8; obtain ⟨Ao9, co9, eo9⟩ := Kd.R_slice HO24.out; subst eo9; have p25 : 0 ≤ ((ji4) : Int) := of_decide_eq_true asm_; have q25 : (ji4) < (y22.length : Int) := of_decide_eq_true asm_; obtain ⟨ad25, e25, hx25_0⟩ := Kd.at_int (Kd.R_reads' HO24.out).2.2 (ji4) p25 q25; cases e25; replace p25 := eq_true p25; replace q25 := eq_true q25))
    go_ret
    exact ⟨by first | rfl | (simp [errW_none, errW_some] <;> rfl) | (simp only [← hji4]; first | rfl | (simp [errW_none, errW_some] <;> rfl)) | (simp [*, errW_none, errW_some] <;> rfl), ab2_⟩
   rw [if_neg c6] at H
   exact absurd H (by simp)
  rw [if_neg c5] at H
  exact absurd H (by simp)
 replace c3 := Bool.eq_false_iff.mpr c3
 subst c3
 rw [if_neg (show ¬ (false = true) by decide)] at H
 obtain rfl := Option.some.inj H
 go_enter Tryz.func94, Tryz.ntmps94
 go_wp2_with (first | ((with_reducible refine gate_callee (f := 122) rfl ?_); refine gl_ 4 Tryz.func122 #[.int .i64 a0] ?_; (with_reducible refine (spec_OpValid.calls a0 false _ A2.out).mono ?_); rintro e w' ⟨rfl, ⟨nd, rfl⟩⟩; refine ⟨_, rfl, ?_⟩))
 go_ret
 exact ⟨rr_, ab2_⟩
theorem spec_l5Wrap.calls (P0_ : Nat → Prop) (u20_ : Value) (l0 : List ByteArray) (a1 : Bool) (r : List ByteArray) (w0 w : World) (hB : Below w0.heap.size w0 w) (ho0 : Kd.R Kd.string 9 w w0.heap.size P0_ u20_ l0) (h : spec_l5Wrap.f l0 a1 = some r) :
  Calls Tryz.prog 95 #[u20_, .bool a1] w fun e w' => ∃ v0_ : Value, e = .returned (v0_) ∧ Kd.R Kd.string 9 w' w0.heap.size (fun k_ => (P0_ k_ ∨ w.heap.size ≤ k_)) v0_ r ∧ Below w0.heap.size w0 w' ∧ Kept w w' (fun k_ => P0_ k_) := by
 have HO0 := am (show Kd.R Kd.string 9 w w0.heap.size (fun k_ => (P0_ k_ ∨ w.heap.size ≤ k_)) u20_ l0 from Kd.R_mono ho0 (fun k_ hk => (.inl hk)))
 have HK := am (Kept.refl w (fun k_ => P0_ k_))
 have HW0 := am hB.size
 have HB := am hB
 clear hB
 have H : (if a1 = true then ((some (([(⟨#[40]⟩ : ByteArray)] : List ByteArray) : List ByteArray)).bind fun y21 => (if y21.length + l0.length < 8796093022208 then ((some (y21 ++ l0 : List ByteArray)).bind fun y22 => (if y22.length < 8796093022208 then (some (y22 ++ [(⟨#[41]⟩ : ByteArray)])) else (none))) else (none))) else (some l0)) = some r := h
 clear h
 by_cases c3 : a1 = true
 ·subst c3
  rw [if_pos rfl] at H
  obtain ⟨y21, hy_⟩ : ∃ y_ : List ByteArray, y_ = (([(⟨#[40]⟩ : ByteArray)] : List ByteArray)) := ⟨_, rfl⟩
  replace H : (if y21.length + l0.length < 8796093022208 then ((some (y21 ++ l0 : List ByteArray)).bind fun y22 => (if y22.length < 8796093022208 then (some (y22 ++ [(⟨#[41]⟩ : ByteArray)])) else (none))) else (none)) = some r := rx_
  have Ny21 := am hy_
  clear hy_
  by_cases c4 : y21.length + l0.length < 8796093022208
  ·rw [if_pos c4] at H
   have LMc4 := am c4
   clear c4
   obtain ⟨y22, hy_⟩ : ∃ y_ : List ByteArray, y_ = (y21 ++ l0) := ⟨_, rfl⟩
   replace H : (if y22.length < 8796093022208 then (some (y22 ++ [(⟨#[41]⟩ : ByteArray)])) else (none)) = some r := rx_
   have Ny22 := am hy_
   clear hy_
   by_cases c5 : y22.length < 8796093022208
   ·rw [if_pos c5] at H
    have LMc5 := am c5
    clear c5
    obtain ⟨y23, hy_⟩ : ∃ y_ : List ByteArray, y_ = (y22 ++ [(⟨#[41]⟩ : ByteArray)]) := ⟨_, rfl⟩
    replace H : (some y23) = some r := rx_
    have Ny23 := am hy_
    clear hy_
    obtain rfl := Option.some.inj H
    go_enter Tryz.func95, Tryz.ntmps95
    go_wp2_with (first | ((with_reducible refine gate_dst (N := 9) rfl ?_); refine Kd.R_lit Kd.string _ 9 rfl (N := 9) rfl (xs := ([(⟨#[40]⟩ : ByteArray)] : List ByteArray)) (inner := [.string (⟨#[40]⟩ : ByteArray)]) (ok := fun _ => True) (okp := fun _ => True) rn_ ?hp (fun _ hk => hk) trivial (Below.refl _ _) (Nat.le_refl _) (by simp) ?_; (case hp => exact (Reps.one (show Kd.M Kd.string _ _ _ (⟨#[40]⟩ : ByteArray) [.string (⟨#[40]⟩ : ByteArray)] from rfl) (Reps.none _ _))); intro v24 w6 ho7 hb hg_ hnew_; clear hg_ hnew_; (first | rw [← Ny21.out] at ho7 | (simp only [Int.reduceToNat] at ho7; rw [← Ny21.out] at ho7)); have HO25 := am (Kd.R_lower (Kd.R_new' (Kd.R_newM (M := fun k_ => (P0_ k_ ∨ w.heap.size ≤ k_)) ho7 (by first | exact HK.out.1 | exact (show Kept w _ (fun k_ => P0_ k_) from ab36_).1) (fun k_ h_ => .inr h_)) (Kd.R_lt (aR_ HO0.out))) (below_size ab2_)); replace HO0 := am (Kd.R_elder' (aR_ HO0.out) (Kd.R_base ho7) hb); replace HK := am (Kept.below (S := (fun k_ => P0_ k_)) ab36_ hb); replace HB := am (below_step ab2_ hb); clear hb ho7; obtain ⟨Ao9, co9, eo9⟩ := Kd.R_slice HO0.out; subst eo9) | ((with_reducible refine gate_builtin (b := .append) (xs := #[.tmp 9, .tmp 10]) rfl ?_); at_builtin; refine Kd.R_append_rows Kd.string (w0 := w0) w0.heap.size rfl (.tmp 9) (.tmp 10) 29 9 (.string ⟨#[]⟩) 16 rfl Tryz.underlying29 info9 rfl (by decide) (by omega) v24 y21 l0 _ _ _ (fun k_ => (P0_ k_ ∨ w.heap.size ≤ k_) ∧ some k_ ≠ (.slice Ao9 l0.length co9 : Value).ownBlock) (fun _ => False) rfl rfl ?aO ?aR (fun _ _ h => h) (fun _ h => h.elim) ?aF ?aB ?aS ?aL ?_; (case aR => repeat (first | exact (Kd.R_reads' HO0.out).2.2 | (with_reducible refine Kd.C_alloc ?_ _) | (with_reducible refine Kd.C_drewN ?_ _) | (with_reducible refine Kd.C_drew ?_))); (case aB => exact ab2_); (case aF => exact (fun k_ hk => ⟨(.inr (Nat.le_trans (by first | exact HK.out.1 | exact (show Kept w _ (fun k_ => P0_ k_) from ab36_).1) hk)), Kd.fresh' (Kd.R_lt (aR_ HO0.out)) k_ hk⟩)); (case aO => exact (aRw_ (Kd.R_mono HO25.out (fun _ hk => ⟨hk.1.1, hk.2⟩)))); (case aS => exact (below_size ab2_)); (case aL => have := LMc4.out; omega); intro v26 w8 ho hb hg hat; rw [← Ny22.out] at ho; replace HO0 := am (Kd.R_after (ok := (fun k_ => (P0_ k_ ∨ w.heap.size ≤ k_))) (aR_ HO0.out) hg hat); replace HB := am (hb); replace HK := am (Kept.of_grown (S := (fun k_ => P0_ k_)) hg ab36_ (fun k_ e_ => (HO25.out.1 k_ e_).1.1)); have HO27 := am (ho); clear HO25 ho hb hg hat) | ((with_reducible refine gate_builtin (b := .append) (xs := #[.tmp 12, .tmp 13]) rfl ?_); at_builtin; refine Kd.R_append Kd.string (w0 := w0) w0.heap.size rfl (.tmp 12) (.tmp 13) 29 9 (.string ⟨#[]⟩) 16 rfl Tryz.underlying29 info9 rfl (by decide) (by omega) v26 y22 (⟨#[41]⟩ : ByteArray) [.string (⟨#[41]⟩ : ByteArray)] (fun k_ => (P0_ k_ ∨ w.heap.size ≤ k_) ∧ some k_ ≠ (.slice Ao9 l0.length co9 : Value).ownBlock) (fun _ => False) rfl rfl ?aP (fun _ hk => hk.elim) ?aF ?aO ?aB ?aS ?aL ?_; (case aP => exact rfl); (case aB => exact ab2_); (case aF => exact (fun k_ hk => ⟨(.inr (Nat.le_trans (by first | exact HK.out.1 | exact (show Kept w _ (fun k_ => P0_ k_) from ab36_).1) hk)), Kd.fresh' (Kd.R_lt (aR_ HO0.out)) k_ hk⟩)); (case aO => exact (aR_ HO27.out)); (case aS => exact (below_size ab2_)); (case aL => have := LMc5.out; omega); intro v28 w10 ho hb hg hat; rw [← Ny23.out] at ho; replace HO0 := am (Kd.R_after (ok := (fun k_ => (P0_ k_ ∨ w.heap.size ≤ k_))) (aR_ HO0.out) hg hat); replace HB := am (hb); replace HK := am (Kept.of_grown (S := (fun k_ => P0_ k_)) hg ab36_ (fun k_ e_ => (HO27.out.1 k_ e_).1)); have HO30 := am (ho); clear HO27 ho hb hg hat))
    go_ret
    exact ⟨_, ab13_, aRw_ (Kd.R_mono HO30.out (fun _ hk => hk.1)), ab2_, ab36_⟩
   rw [if_neg c5] at H
   exact absurd H (by simp)
  rw [if_neg c4] at H
  exact absurd H (by simp)
 replace c3 := Bool.eq_false_iff.mpr c3
 subst c3
 rw [if_neg (show ¬ (false = true) by decide)] at H
 obtain rfl := Option.some.inj H
 go_enter Tryz.func95, Tryz.ntmps95
 go_wp2
 go_ret
 exact ⟨_, ab13_, aRw_ HO0.out, ab2_, ab36_⟩
theorem spec_l5Level.calls (a0_0 : Int) (a0_1 : Int) (A0_2 : Option Addr) (c0_2 : Nat) (l0_2 : List (S56)) (r : Int) (w : World) (hr0_2 : Kd.C k56 w A0_2 l0_2.length l0_2) (hc0_2 : l0_2.length ≤ c0_2) (h : spec_l5Level.f a0_0 a0_1 l0_2 = some r) :
  Calls Tryz.prog 96 #[.agg #[.int .i64 a0_0, .int .i64 a0_1, .slice A0_2 l0_2.length c0_2]] w fun e w' => e = .returned (.int .i64 r) ∧ Below w.heap.size w w' := by
 have hu56 := Tryz.underlying56
 have HR0_2 := am hr0_2
 have HC0_2 := am hc0_2
 clear hr0_2 hc0_2
 have HB := am (Below.refl w.heap.size w)
 have H : (if (l0_2.length : Int) = 0 then (some 9) else ((spec_OpLevel.f a0_0).bind fun t20 => (some t20))) = some r := h
 clear h
 have HH_ := am H
 clear H
 go_enter Tryz.func96, Tryz.ntmps96
 go_upto_region 1 with (first | ((with_reducible refine gate_dst (N := 1) rfl ?_); refine box_event rfl (N := 1) rfl (cs := #[.int .i64 a0_0, .int .i64 a0_1, .slice A0_2 l0_2.length c0_2]) (t := 56) rn_ ?_; intro gb21 hg w3 hbox hb; have BK21 := am (hbox); have GW21 := am ((by rw [hg]; exact (below_size ab2_) : w.heap.size ≤ gb21)); have GE21 := am ((by rw [hg]; exact (below_size ab2_) : w.heap.size ≤ gb21)); replace HB := am (below_step ab2_ hb); clear hb hbox hg; obtain ⟨hcz4_0, hcz4_1, hcz4_2, hfz4_0, hfz4_1, hfz4_2⟩ := bcf3_ BK21.out))
 have H := HH_.out
 clear HH_
 by_cases c2 : (l0_2.length : Int) = 0
 ·rw [if_pos c2] at H
  have c2b0 : ((l0_2.length : Int) == 0) = true := beq_iff_eq.mpr c2
  have c2b1 : ((l0_2.length : Int) != 0) = false := bne_eq_false_iff_eq.mpr c2
  clear c2
  obtain rfl := Option.some.inj H
  go_wp2
  go_ret
  exact ⟨rr_, ab44_⟩
 rw [if_neg c2] at H
 have c2b0 : ((l0_2.length : Int) == 0) = false := beq_eq_false_iff_ne.mpr c2
 have c2b1 : ((l0_2.length : Int) != 0) = true := bne_iff_ne.mpr c2
 have c2b2 : ¬ (l0_2 = []) := fun h_ => c2 (by rw [h_]; rfl)
 obtain ⟨t20, A5, H⟩ := bsa H
 (try dsimp only at H)
 obtain rfl := Option.some.inj H
 go_wp2_with (first | ((with_reducible refine gate_callee (f := 94) rfl ?_); refine gl_ 9 Tryz.func94 #[.int .i64 a0_0] ?_; (with_reducible refine (spec_OpLevel.calls a0_0 t20 _ A5.out).mono ?_); rintro e w8 ⟨rfl, hb⟩; refine ⟨_, rfl, ?_⟩; replace BK21 := am (bbl_ BK21.out hb); replace HB := am (below_step ab44_ hb); (try clear hb)))
 go_ret
 exact ⟨rr_, ab44_⟩
theorem spec_OpText.calls (a0 : Int) (r : ByteArray) (w : World) (h : spec_OpText.f a0 = some r) :
  Calls Tryz.prog 97 #[.int .i64 a0] w fun e w' => e = .returned (.string r) ∧ Below w.heap.size w w' := by
 have HB := am (Below.refl w.heap.size w)
 have H : ((spec_OpValid.f a0).bind fun t21 => (if t21 = true then ((some (([(⟨#[124]⟩ : ByteArray), (⟨#[94]⟩ : ByteArray), (⟨#[38]⟩ : ByteArray), (⟨#[61, 61]⟩ : ByteArray), (⟨#[60]⟩ : ByteArray), (⟨#[60, 60]⟩ : ByteArray), (⟨#[62, 62]⟩ : ByteArray), (⟨#[43]⟩ : ByteArray), (⟨#[45]⟩ : ByteArray), (⟨#[42]⟩ : ByteArray), (⟨#[47]⟩ : ByteArray), (⟨#[37]⟩ : ByteArray)] : List ByteArray) : List ByteArray)).bind fun y22 => (if 0 ≤ (wrap64 (a0 - 1)) then (if (wrap64 (a0 - 1)) < (y22.length : Int) then (some (rdOf ByteArray.empty y22 (wrap64 (a0 - 1)))) else (none)) else (none))) else (some (⟨#[]⟩ : ByteArray)))) = some r := h
 clear h
 obtain ⟨t21, A2, H⟩ := bsa H
 (try dsimp only at H)
 by_cases c3 : t21 = true
 ·subst c3
  rw [if_pos rfl] at H
  obtain ⟨y22, hy_⟩ : ∃ y_ : List ByteArray, y_ = (([(⟨#[124]⟩ : ByteArray), (⟨#[94]⟩ : ByteArray), (⟨#[38]⟩ : ByteArray), (⟨#[61, 61]⟩ : ByteArray), (⟨#[60]⟩ : ByteArray), (⟨#[60, 60]⟩ : ByteArray), (⟨#[62, 62]⟩ : ByteArray), (⟨#[43]⟩ : ByteArray), (⟨#[45]⟩ : ByteArray), (⟨#[42]⟩ : ByteArray), (⟨#[47]⟩ : ByteArray), (⟨#[37]⟩ : ByteArray)] : List ByteArray)) := ⟨_, rfl⟩
  replace H : (if 0 ≤ (wrap64 (a0 - 1)) then (if (wrap64 (a0 - 1)) < (y22.length : Int) then (some (rdOf ByteArray.empty y22 (wrap64 (a0 - 1)))) else (none)) else (none)) = some r := rx_
  have Ny22 := am hy_
  clear hy_
  obtain ⟨ji4, hji4⟩ : ∃ j_ : Int, (wrap64 (a0 - 1)) = j_ := ⟨_, rfl⟩
  replace H : (if 0 ≤ (ji4) then (if (ji4) < (y22.length : Int) then (some (rdOf ByteArray.empty y22 (ji4))) else (none)) else (none)) = some r := by first | (rw [hji4] at H; exact H) | (simp only [hji4] at H ⊢; exact H)
  (try rw [hji4] at A2)
  have hji4w : (IntKind.i64.wrap (a0 - 1)) = ji4 := (i64_w _).trans hji4
  by_cases c5 : 0 ≤ (ji4)
  ·rw [if_pos c5] at H
   have c5b0 : decide (0 ≤ (ji4)) = true := decide_eq_true c5
   clear c5
   by_cases c6 : (ji4) < (y22.length : Int)
   ·rw [if_pos c6] at H
    have c6b0 : decide ((ji4) < (y22.length : Int)) = true := decide_eq_true c6
    clear c6
    obtain rfl := Option.some.inj H
    go_enter Tryz.func97, Tryz.ntmps97
    go_wp2_with (first | ((with_reducible refine gate_callee (f := 122) rfl ?_); refine gl_ 4 Tryz.func122 #[.int .i64 a0] ?_; (with_reducible refine (spec_OpValid.calls a0 true _ A2.out).mono ?_); rintro e w' ⟨rfl, ⟨nd, rfl⟩⟩; refine ⟨_, rfl, ?_⟩) | ((with_reducible refine gate_dst (N := 6) rfl ?_); refine Kd.R_lit Kd.string _ 9 rfl (N := 6) rfl (xs := ([(⟨#[124]⟩ : ByteArray), (⟨#[94]⟩ : ByteArray), (⟨#[38]⟩ : ByteArray), (⟨#[61, 61]⟩ : ByteArray), (⟨#[60]⟩ : ByteArray), (⟨#[60, 60]⟩ : ByteArray), (⟨#[62, 62]⟩ : ByteArray), (⟨#[43]⟩ : ByteArray), (⟨#[45]⟩ : ByteArray), (⟨#[42]⟩ : ByteArray), (⟨#[47]⟩ : ByteArray), (⟨#[37]⟩ : ByteArray)] : List ByteArray)) (inner := [.string (⟨#[124]⟩ : ByteArray), .string (⟨#[94]⟩ : ByteArray), .string (⟨#[38]⟩ : ByteArray), .string (⟨#[61, 61]⟩ : ByteArray), .string (⟨#[60]⟩ : ByteArray), .string (⟨#[60, 60]⟩ : ByteArray), .string (⟨#[62, 62]⟩ : ByteArray), .string (⟨#[43]⟩ : ByteArray), .string (⟨#[45]⟩ : ByteArray), .string (⟨#[42]⟩ : ByteArray), .string (⟨#[47]⟩ : ByteArray), .string (⟨#[37]⟩ : ByteArray)]) (ok := fun _ => True) (okp := fun _ => True) rn_ ?hp (fun _ hk => hk) trivial (Below.refl _ _) (Nat.le_refl _) (by simp) ?_; (case hp => exact (Reps.one (show Kd.M Kd.string _ _ _ (⟨#[124]⟩ : ByteArray) [.string (⟨#[124]⟩ : ByteArray)] from rfl) (Reps.one (show Kd.M Kd.string _ _ _ (⟨#[94]⟩ : ByteArray) [.string (⟨#[94]⟩ : ByteArray)] from rfl) (Reps.one (show Kd.M Kd.string _ _ _ (⟨#[38]⟩ : ByteArray) [.string (⟨#[38]⟩ : ByteArray)] from rfl) (Reps.one (show Kd.M Kd.string _ _ _ (⟨#[61, 61]⟩ : ByteArray) [.string (⟨#[61, 61]⟩ : ByteArray)] from rfl) (Reps.one (show Kd.M Kd.string _ _ _ (⟨#[60]⟩ : ByteArray) [.string (⟨#[60]⟩ : ByteArray)] from rfl) (Reps.one (show Kd.M Kd.string _ _ _ (⟨#[60, 60]⟩ : ByteArray) [.string (⟨#[60, 60]⟩ : ByteArray)] from rfl) (Reps.one (show Kd.M Kd.string _ _ _ (⟨#[62, 62]⟩ : ByteArray) [.string (⟨#[62, 62]⟩ : ByteArray)] from rfl) (Reps.one (show Kd.M Kd.string _ _ _ (⟨#[43]⟩ : ByteArray) [.string (⟨#[43]⟩ : ByteArray)] from rfl) (Reps.one (show Kd.M Kd.string _ _ _ (⟨#[45]⟩ : ByteArray) [.string (⟨#[45]⟩ : ByteArray)] from rfl) (Reps.one (show Kd.M Kd.string _ _ _ (⟨#[42]⟩ : ByteArray) [.string (⟨#[42]⟩ : ByteArray)] from rfl) (Reps.one (show Kd.M Kd.string _ _ _ (⟨#[47]⟩ : ByteArray) [.string (⟨#[47]⟩ : ByteArray)] from rfl) (Reps.one (show Kd.M Kd.string _ _ _ (⟨#[37]⟩ : ByteArray) [.string (⟨#[37]⟩ : ByteArray)] from rfl) (Reps.none _ _)))))))))))))); intro v23 w7 ho8 hb hg_ hnew_; clear hg_ hnew_; (first | rw [← Ny22.out] at ho8 | (simp only [Int.reduceToNat] at ho8; rw [← Ny22.out] at ho8)); have HO24 := am (Kd.R_lower ho8 (below_size ab2_)); replace HB := am (below_step ab2_ hb); clear hb ho8; obtain ⟨Ao9, co9, eo9⟩ := Kd.R_slice HO24.out; subst eo9; have p25 : 0 ≤ ((ji4) : Int) := of_decide_eq_true asm_; have q25 : (ji4) < (y22.length : Int) := of_decide_eq_true asm_; obtain ⟨ad25, e25, hx25_0⟩ := Kd.at_string (Kd.R_reads' HO24.out).2.2 (ji4) p25 q25; cases e25; replace p25 := eq_true p25; replace q25 := eq_true q25))
    go_ret
    exact ⟨by first | rfl | (simp [errW_none, errW_some] <;> rfl) | (simp only [← hji4]; first | rfl | (simp [errW_none, errW_some] <;> rfl)) | (simp [*, errW_none, errW_some] <;> rfl), ab2_⟩
   rw [if_neg c6] at H
   exact absurd H (by simp)
  rw [if_neg c5] at H
  exact absurd H (by simp)
 replace c3 := Bool.eq_false_iff.mpr c3
 subst c3
 rw [if_neg (show ¬ (false = true) by decide)] at H
 obtain rfl := Option.some.inj H
 go_enter Tryz.func97, Tryz.ntmps97
 go_wp2_with (first | ((with_reducible refine gate_callee (f := 122) rfl ?_); refine gl_ 4 Tryz.func122 #[.int .i64 a0] ?_; (with_reducible refine (spec_OpValid.calls a0 false _ A2.out).mono ?_); rintro e w' ⟨rfl, ⟨nd, rfl⟩⟩; refine ⟨_, rfl, ?_⟩))
 go_ret
 exact ⟨rr_, ab2_⟩
theorem spec_l5Tokens.mono_l : ∀ k, (∀ y0 y1 y2, LeO (spec_l5Tokens.f k y0 y1 y2) (spec_l5Tokens.f (k + 1) y0 y1 y2))
 | 0 => fun _ _ _ r h => by simp [spec_l5Tokens.f] at h
 | k + 1 => by
  have ih0 := spec_l5Tokens.mono_l k
  ·intro y0 y1 y2
   unfold spec_l5Tokens.f
   have m0 := @spec_l6Dec.mono
   exact mo_
theorem spec_l5Tokens.mono : ∀ a0 a1 a2 k, LeO (spec_l5Tokens.f k a0 a1 a2) (spec_l5Tokens.f (k + 1) a0 a1 a2) := by
 intro a0 a1 a2 k
 have ih0 := spec_l5Tokens.mono_l k
 exact ih0 a0 a1 a2
def spec_l5Tokens.T6 : Bool × List (List Nat × List Nat) := (true, [([], []), ([0], [0]), ([1], [1]), ([2], [2]), ([3], [3]), ([], []), ([5], [5]), ([6], [6]), ([7], [7]), ([8, 4], [8]), ([], []), ([9, 10], [9, 10]), ([4, 11, 9], [4, 11]), ([12, 12, 0, 1, 2, 3, 4, 5, 6, 7, 8, 9, 10, 11, 12], [12])])
def spec_l5Tokens.B6 : List Nat := [0, 1, 3, 7, 15, 0, 32, 96, 224, 511, 0, 2047, 4095, 8191]
theorem spec_l5Tokens.tab6 : rtab .any (opsOf Tryz.f74 6) = spec_l5Tokens.T6 := by kernel_rfl
theorem spec_l5Tokens.bits6 : waitsOk spec_l5Tokens.T6.2 spec_l5Tokens.B6 = true := by kernel_rfl
def spec_l5Tokens.T8 : Bool × List (List Nat × List Nat) := (true, [([], []), ([], []), ([1], [1]), ([2], [2]), ([3], [3]), ([4], [4]), ([], []), ([6], [6]), ([7], [7]), ([8], [8]), ([9, 5], [9]), ([], []), ([10, 11], [10, 11]), ([5, 12, 10], [5, 12]), ([0, 13, 13], [0, 13]), ([14, 14, 0, 1, 2, 3, 4, 5, 6, 7, 8, 9, 10, 11, 12, 13, 14], [14])])
def spec_l5Tokens.B8 : List Nat := [0, 0, 2, 6, 14, 30, 0, 64, 192, 448, 1022, 0, 4094, 8190, 16383, 32767]
theorem spec_l5Tokens.tab8 : rtab .any (opsOf Tryz.f74 8) = spec_l5Tokens.T8 := by kernel_rfl
theorem spec_l5Tokens.bits8 : waitsOk spec_l5Tokens.T8.2 spec_l5Tokens.B8 = true := by kernel_rfl
theorem spec_l5Tokens.calls (k : Nat) : ∀ (a0_0 : Int) (a0_1 : Int) (A0_2 : Option Addr) (c0_2 : Nat) (l0_2 : List (S56)) (r : List ByteArray) (w : World) (hr0_2 : Kd.C k56 w A0_2 l0_2.length l0_2) (hc0_2 : l0_2.length ≤ c0_2) (h : spec_l5Tokens.f k a0_0 a0_1 l0_2 = some r),
  Calls Tryz.prog 74 #[.agg #[.int .i64 a0_0, .int .i64 a0_1, .slice A0_2 l0_2.length c0_2]] w fun e w' => ∃ v0_ : Value, e = .returned (v0_) ∧ Kd.R Kd.string 9 w' w.heap.size (fun _ => True) v0_ r ∧ Below w.heap.size w w' := by
 induction k using Nat.strongRecOn with
 | _ k ih =>
 intro a0_0 a0_1 A0_2 c0_2 l0_2 r w hr0_2 hc0_2 h
 cases k with
 | zero => exact absurd h (by simp [spec_l5Tokens.f])
 | succ k =>
 simp only [spec_l5Tokens.f] at h
 have hu56 := Tryz.underlying56
 have HR0_2 := am hr0_2
 have HC0_2 := am hc0_2
 clear hr0_2 hc0_2
 have HB := am (Below.refl w.heap.size w)
 have H : (if a0_0 = 0 then ((spec_l6Dec.f k a0_1).bind fun t57 => (some (([t57] : List ByteArray)))) else (if a0_0 = 13 then ((spec_l5Name.f a0_1).bind fun t58 => (some (([t58] : List ByteArray)))) else ((spec_OpLevel.f a0_0).bind fun t59 => (if 0 < (l0_2.length : Int) then ((spec_l5Tokens.f k ((rd_T56 l0_2 0).f0) ((rd_T56 l0_2 0).f1) ((rd_T56 l0_2 0).f2)).bind fun t60 => ((spec_l5Level.f ((rd_T56 l0_2 0).f0) ((rd_T56 l0_2 0).f1) ((rd_T56 l0_2 0).f2)).bind fun t61 => ((spec_l5Wrap.f t60 (decide (t61 < t59))).bind fun t62 => ((spec_OpText.f a0_0).bind fun t63 => (if t62.length < 8796093022208 then ((some (t62 ++ [t63] : List ByteArray)).bind fun y65 => (if 1 < (l0_2.length : Int) then ((spec_l5Tokens.f k ((rd_T56 l0_2 1).f0) ((rd_T56 l0_2 1).f1) ((rd_T56 l0_2 1).f2)).bind fun t66 => ((spec_l5Level.f ((rd_T56 l0_2 1).f0) ((rd_T56 l0_2 1).f1) ((rd_T56 l0_2 1).f2)).bind fun t67 => ((spec_l5Wrap.f t66 (decide (t67 ≤ t59))).bind fun t68 => (if y65.length + t68.length < 8796093022208 then (some (y65 ++ t68)) else (none))))) else (none))) else (none)))))) else (none))))) = some r := h
 clear h
 have HH_ := am H
 clear H
 go_enter Tryz.func74, Tryz.ntmps74
 go_upto_region 1 with (first | ((with_reducible refine gate_dst (N := 1) rfl ?_); refine box_event rfl (N := 1) rfl (cs := #[.int .i64 a0_0, .int .i64 a0_1, .slice A0_2 l0_2.length c0_2]) (t := 56) rn_ ?_; intro gb69 hg w4 hbox hb; have BK69 := am (hbox); have GW69 := am ((by rw [hg]; exact (below_size ab2_) : w.heap.size ≤ gb69)); have GE69 := am ((by rw [hg]; exact (below_size ab2_) : w.heap.size ≤ gb69)); replace HB := am (below_step ab2_ hb); clear hb hbox hg; obtain ⟨hcz5_0, hcz5_1, hcz5_2, hfz5_0, hfz5_1, hfz5_2⟩ := bcf3_ BK69.out))
 have H := HH_.out
 clear HH_
 by_cases c2 : a0_0 = 0
 ·rw [if_pos c2] at H
  have c2b0 : (a0_0 == 0) = true := beq_iff_eq.mpr c2
  have c2b1 : (a0_0 != 0) = false := bne_eq_false_iff_eq.mpr c2
  clear c2
  obtain ⟨t57, A3, H⟩ := bsa H
  (try dsimp only at H)
  obtain ⟨y70, hy_⟩ : ∃ y_ : List ByteArray, y_ = (([t57] : List ByteArray)) := ⟨_, rfl⟩
  replace H : (some y70) = some r := rx_
  have Ny70 := am hy_
  clear hy_
  obtain rfl := Option.some.inj H
  go_wp2_with (first | ((with_reducible refine gate_callee (f := 24) rfl ?_); refine gl_ 10 Tryz.func24 #[.int .i64 a0_1] ?_; (with_reducible refine (spec_l6Dec.calls k a0_1 t57 _ A3.out).mono ?_); rintro e w6 ⟨rfl, hb⟩; refine ⟨_, rfl, ?_⟩; replace BK69 := am (bbl_ BK69.out hb); replace HB := am (below_step ab33_ hb); (try clear hb)) | ((with_reducible refine gate_dst (N := 11) rfl ?_); refine Kd.R_lit Kd.string _ 9 rfl (N := 11) rfl (xs := ([t57] : List ByteArray)) (inner := [.string t57]) (ok := fun _ => True) (okp := fun _ => True) rn_ ?hp (fun _ hk => hk) trivial (Below.refl _ _) (Nat.le_refl _) (by simp) ?_; (case hp => exact (Reps.one (show Kd.M Kd.string _ _ _ t57 [.string t57] from rfl) (Reps.none _ _))); intro v71 w7 ho8 hb hg_ hnew_; clear hg_ hnew_; (first | rw [← Ny70.out] at ho8 | (simp only [Int.reduceToNat] at ho8; rw [← Ny70.out] at ho8)); have HO72 := am (Kd.R_lower ho8 (below_size ab33_)); replace BK69 := am (bbl_ BK69.out hb); replace HB := am (below_step ab33_ hb); clear hb ho8))
  go_ret
  exact ⟨_, ab13_, aRw_ HO72.out, ab33_⟩
 rw [if_neg c2] at H
 have c2b0 : (a0_0 == 0) = false := beq_eq_false_iff_ne.mpr c2
 have c2b1 : (a0_0 != 0) = true := bne_iff_ne.mpr c2
 by_cases c9 : a0_0 = 13
 ·rw [if_pos c9] at H
  have c9b0 : (a0_0 == 13) = true := beq_iff_eq.mpr c9
  have c9b1 : (a0_0 != 13) = false := bne_eq_false_iff_eq.mpr c9
  clear c9
  obtain ⟨t58, A75, H⟩ := bsm H
  (try dsimp only at H)
  have A10 := am A75
  clear A75
  obtain ⟨y76, hy_⟩ : ∃ y_ : List ByteArray, y_ = (([t58] : List ByteArray)) := ⟨_, rfl⟩
  replace H : (some y76) = some r := rx_
  have Ny76 := am hy_
  clear hy_
  obtain rfl := Option.some.inj H
  go_wp2_with (first | ((with_reducible refine gate_callee (f := 73) rfl ?_); refine gl_ 17 Tryz.func73 #[.int .i64 a0_1] ?_; (with_reducible refine (spec_l5Name.calls a0_1 t58 _ A10.out).mono ?_); rintro e w13 ⟨rfl, hb⟩; refine ⟨_, rfl, ?_⟩; replace BK69 := am (bbl_ BK69.out hb); replace HB := am (below_step ab33_ hb); (try clear hb)) | ((with_reducible refine gate_dst (N := 18) rfl ?_); refine Kd.R_lit Kd.string _ 9 rfl (N := 18) rfl (xs := ([t58] : List ByteArray)) (inner := [.string t58]) (ok := fun _ => True) (okp := fun _ => True) rn_ ?hp (fun _ hk => hk) trivial (Below.refl _ _) (Nat.le_refl _) (by simp) ?_; (case hp => exact (Reps.one (show Kd.M Kd.string _ _ _ t58 [.string t58] from rfl) (Reps.none _ _))); intro v77 w14 ho15 hb hg_ hnew_; clear hg_ hnew_; (first | rw [← Ny76.out] at ho15 | (simp only [Int.reduceToNat] at ho15; rw [← Ny76.out] at ho15)); have HO78 := am (Kd.R_lower ho15 (below_size ab33_)); replace BK69 := am (bbl_ BK69.out hb); replace HB := am (below_step ab33_ hb); clear hb ho15))
  go_ret
  exact ⟨_, ab13_, aRw_ HO78.out, ab33_⟩
 rw [if_neg c9] at H
 have c9b0 : (a0_0 == 13) = false := beq_eq_false_iff_ne.mpr c9
 have c9b1 : (a0_0 != 13) = true := bne_iff_ne.mpr c9
 obtain ⟨t59, A79, H⟩ := bsm H
 (try dsimp only at H)
 have A16 := am A79
 clear A79
 by_cases c17 : 0 < (l0_2.length : Int)
 ·rw [if_pos c17] at H
  have c17b0 : decide (0 < (l0_2.length : Int)) = true := decide_eq_true c17
  have c17b1 : decide (0 < l0_2.length) = true := decide_eq_true (by omega)
  clear c17
  obtain ⟨t60, A18, H⟩ := bsa H
  (try dsimp only at H)
  obtain ⟨t61, A81, H⟩ := bsm H
  (try dsimp only at H)
  have A19 := am A81
  clear A81
  obtain ⟨t62, A82, H⟩ := bsm H
  (try dsimp only at H)
  have A20 := am A82
  clear A82
  obtain ⟨t63, A83, H⟩ := bsm H
  (try dsimp only at H)
  have A21 := am A83
  clear A83
  by_cases c22 : t62.length < 8796093022208
  ·rw [if_pos c22] at H
   have LMc22 := am c22
   clear c22
   obtain ⟨y65, hy_⟩ : ∃ y_ : List ByteArray, y_ = (t62 ++ [t63]) := ⟨_, rfl⟩
   replace H : (if 1 < (l0_2.length : Int) then ((spec_l5Tokens.f k ((rd_T56 l0_2 1).f0) ((rd_T56 l0_2 1).f1) ((rd_T56 l0_2 1).f2)).bind fun t66 => ((spec_l5Level.f ((rd_T56 l0_2 1).f0) ((rd_T56 l0_2 1).f1) ((rd_T56 l0_2 1).f2)).bind fun t67 => ((spec_l5Wrap.f t66 (decide (t67 ≤ t59))).bind fun t68 => (if y65.length + t68.length < 8796093022208 then (some (y65 ++ t68)) else (none))))) else (none)) = some r := rx_
   have Ny65 := am hy_
   clear hy_
   by_cases c23 : 1 < (l0_2.length : Int)
   ·rw [if_pos c23] at H
    have c23b0 : decide (1 < (l0_2.length : Int)) = true := decide_eq_true c23
    have c23b1 : decide (1 < l0_2.length) = true := decide_eq_true (by omega)
    clear c23
    obtain ⟨t66, A84, H⟩ := bsm H
    (try dsimp only at H)
    have A24 := am A84
    clear A84
    obtain ⟨t67, A85, H⟩ := bsm H
    (try dsimp only at H)
    have A25 := am A85
    clear A85
    obtain ⟨t68, A86, H⟩ := bsm H
    (try dsimp only at H)
    have A26 := am A86
    clear A86
    by_cases c27 : y65.length + t68.length < 8796093022208
    ·rw [if_pos c27] at H
     have LMc27 := am c27
     clear c27
     obtain ⟨y87, hy_⟩ : ∃ y_ : List ByteArray, y_ = (y65 ++ t68) := ⟨_, rfl⟩
     replace H : (some y87) = some r := rx_
     have Ny87 := am hy_
     clear hy_
     obtain rfl := Option.some.inj H
     try go_wp2_with (first | ((with_reducible refine gate_callee (f := 94) rfl ?_); refine gl_ 21 Tryz.func94 #[.int .i64 a0_0] ?_; (with_reducible refine (spec_OpLevel.calls a0_0 t59 _ A16.out).mono ?_); rintro e w30 ⟨rfl, hb⟩; refine ⟨_, rfl, ?_⟩; replace BK69 := am (bbl_ BK69.out hb); replace HB := am (below_step ab33_ hb); (try clear hb)))
     replace BK69 := am (blk_drew BK69.out)
     replace HB := am (below_drew1 HB.out)
     have p88 : 0 ≤ (0 : Int) := (by omega)
     have q88 : 0 < (l0_2.length : Int) := of_decide_eq_true asm_
     obtain ⟨ad88, A88_2, c88_2, e88, hx88_0, hx88_1, hx88_2, hl88_2, hi88_2⟩ := at_T56 HR0_2.out 0 p88 q88
     have hw88_2 := hx88_2
     (try rw [show ((0 : Int)).toNat = 0 from rfl] at hw88_2)
     (try rw [show 0 * 3 = 0 from rfl] at hw88_2)
     (try rw [Addr.add_zero'] at hw88_2)
     have hw88_1 := hx88_1
     (try rw [show ((0 : Int)).toNat = 0 from rfl] at hw88_1)
     (try rw [show 0 * 3 = 0 from rfl] at hw88_1)
     (try rw [Addr.add_zero'] at hw88_1)
     have hw88_0 := hx88_0
     (try rw [show ((0 : Int)).toNat = 0 from rfl] at hw88_0)
     (try rw [show 0 * 3 = 0 from rfl] at hw88_0)
     (try rw [Addr.add_zero'] at hw88_0)
     cases e88
     have qi88 : (0 < l0_2.length) = True := eq_true (by omega)
     (try rw [show ((0 : Int)).toNat = 0 from rfl] at hx88_0)
     (try rw [show 0 * 3 = 0 from rfl] at hx88_0)
     (try rw [Addr.add_zero'] at hx88_0)
     (try rw [show ((0 : Int)).toNat = 0 from rfl] at hx88_1)
     (try rw [show 0 * 3 = 0 from rfl] at hx88_1)
     (try rw [Addr.add_zero'] at hx88_1)
     (try rw [show ((0 : Int)).toNat = 0 from rfl] at hx88_2)
     (try rw [show 0 * 3 = 0 from rfl] at hx88_2)
     (try rw [Addr.add_zero'] at hx88_2)
     replace hx88_0 := (HB.out.cell (World.block_lt_of_cell? w _ hx88_0)).trans hx88_0
     replace hx88_1 := (HB.out.cell (World.block_lt_of_cell? w _ hx88_1)).trans hx88_1
     replace hx88_2 := (HB.out.cell (World.block_lt_of_cell? w _ hx88_2)).trans hx88_2
     have HR88_2 := am hi88_2
     have HC88_2 := am hl88_2
     clear hi88_2 hl88_2
     replace p88 := eq_true p88
     replace q88 := eq_true q88
     have p89 : 0 ≤ (0 : Int) := (by omega)
     have q89 : 0 < (l0_2.length : Int) := of_decide_eq_true asm_
     obtain ⟨ad89, A89_2, c89_2, e89, hx89_0, hx89_1, hx89_2, hl89_2, hi89_2⟩ := at_T56 HR0_2.out 0 p89 q89
     have hw89_2 := hx89_2
     (try rw [show ((0 : Int)).toNat = 0 from rfl] at hw89_2)
     (try rw [show 0 * 3 = 0 from rfl] at hw89_2)
     (try rw [Addr.add_zero'] at hw89_2)
     have hw89_1 := hx89_1
     (try rw [show ((0 : Int)).toNat = 0 from rfl] at hw89_1)
     (try rw [show 0 * 3 = 0 from rfl] at hw89_1)
     (try rw [Addr.add_zero'] at hw89_1)
     have hw89_0 := hx89_0
     (try rw [show ((0 : Int)).toNat = 0 from rfl] at hw89_0)
     (try rw [show 0 * 3 = 0 from rfl] at hw89_0)
     (try rw [Addr.add_zero'] at hw89_0)
     obtain rfl : ad88 = ad89 := (by injection e89)
     have qi89 : (0 < l0_2.length) = True := eq_true (by omega)
     (try rw [show ((0 : Int)).toNat = 0 from rfl] at hx89_0)
     (try rw [show 0 * 3 = 0 from rfl] at hx89_0)
     (try rw [Addr.add_zero'] at hx89_0)
     (try rw [show ((0 : Int)).toNat = 0 from rfl] at hx89_1)
     (try rw [show 0 * 3 = 0 from rfl] at hx89_1)
     (try rw [Addr.add_zero'] at hx89_1)
     (try rw [show ((0 : Int)).toNat = 0 from rfl] at hx89_2)
     (try rw [show 0 * 3 = 0 from rfl] at hx89_2)
     (try rw [Addr.add_zero'] at hx89_2)
     replace hx89_0 := (HB.out.cell (World.block_lt_of_cell? w _ hx89_0)).trans hx89_0
     replace hx89_1 := (HB.out.cell (World.block_lt_of_cell? w _ hx89_1)).trans hx89_1
     replace hx89_2 := (HB.out.cell (World.block_lt_of_cell? w _ hx89_2)).trans hx89_2
     have HR89_2 := am hi89_2
     have HC89_2 := am hl89_2
     clear hi89_2 hl89_2
     replace p89 := eq_true p89
     replace q89 := eq_true q89
     have ea_ := Option.some.inj (hx88_2.symm.trans hx89_2)
     injection ea_ with ea_ en_ ec_
     subst ea_
     subst ec_
     clear en_
     refine start_ (n := 14) (S := fun w' => w'.cell? ⟨gb69, 0, none⟩ = some (.int .i64 a0_0) ∧ w'.cell? ⟨gb69, 1, none⟩ = some (.int .i64 a0_1) ∧ w'.cell? ⟨gb69, 2, none⟩ = some (.slice (some ad88) l0_2.length c0_2) ∧ w'.cell? ad88 = some (.int .i64 ((rd_T56 l0_2 0).f0)) ∧ w'.cell? ⟨ad88.block, ad88.off + 1, none⟩ = some (.int .i64 ((rd_T56 l0_2 0).f1)) ∧ w'.cell? ⟨ad88.block, ad88.off + 2, none⟩ = some (.slice A88_2 ((rd_T56 l0_2 0).f2).length c88_2) ∧ w'.cell? ad88 = some (.int .i64 ((rd_T56 l0_2 0).f0)) ∧ w'.cell? ⟨ad88.block, ad88.off + 1, none⟩ = some (.int .i64 ((rd_T56 l0_2 0).f1)) ∧ w'.cell? ⟨ad88.block, ad88.off + 2, none⟩ = some (.slice A88_2 ((rd_T56 l0_2 0).f2).length c88_2)) (ds := []) (bz 14 0) (by kernel_rfl) rfl rfl ⟨(blk_cell BK69.out 0).trans rfl, (blk_cell BK69.out 1).trans rfl, (blk_cell BK69.out 2).trans rfl, ((HB.out.cell (World.block_lt_of_cell? w _ hw88_0)).trans hw88_0), ((HB.out.cell (World.block_lt_of_cell? w _ hw88_1)).trans hw88_1), ((HB.out.cell (World.block_lt_of_cell? w _ hw88_2)).trans hw88_2), ((HB.out.cell (World.block_lt_of_cell? w _ hw89_0)).trans hw89_0), ((HB.out.cell (World.block_lt_of_cell? w _ hw89_1)).trans hw89_1), ((HB.out.cell (World.block_lt_of_cell? w _ hw89_2)).trans hw89_2)⟩ (fun hHeld => ?_); refine with_tabW spec_l5Tokens.tab6 spec_l5Tokens.bits6 (fun HT_ HW_ => ?_)
     generalize w30.drew = w31 at BK69 HB HR88_2 HR89_2 hx88_0 hx88_1 hx88_2 hx89_0 hx89_1 hx89_2 hHeld ⊢
     refine pr_ 0 22 (bz 14 1) HT_ ?_
     refine pr_ 5 27 (bz 14 33) HT_ ?_
     refine pr_ 10 32 (bz 14 1057) HT_ ?_
     refine tk9_ 1 23 (bz 14 1059) HT_ HW_ hHeld ?_
     refine pr_ 2 24 (bz 14 1063) HT_ ?_
     refine tk9_ 3 25 (bz 14 1071) HT_ HW_ hHeld ?_
     refine tk9_ 6 28 (bz 14 1135) HT_ HW_ hHeld ?_
     refine pr_ 7 29 (bz 14 1263) HT_ ?_
     refine tk9_ 8 30 (bz 14 1519) HT_ HW_ hHeld ?_
     refine one_ (i := 4) (N := some 26) (bz 14 1535) rfl rfl (one_of HT_.out (by kernel_rfl)) (by decide) (fun K hK => ?_)
     refine goes_ Tryz.func74 (by kernel_rfl) rfl #[.agg #[.int .i64 ((rd_T56 l0_2 0).f0), .int .i64 ((rd_T56 l0_2 0).f1), .slice A88_2 ((rd_T56 l0_2 0).f2).length c88_2]] (by rfl) rfl rfl ab1_ ?_
     with_reducible refine (ih k (by omega) ((rd_T56 l0_2 0).f0) ((rd_T56 l0_2 0).f1) _ _ ((rd_T56 l0_2 0).f2) t60 _ (aC_ (Kd.C_below HR88_2.out HB.out)) HC88_2.out A18.out).mono ?_
     rintro e w32 ⟨v90, rfl, ho0, hb⟩
     refine ⟨_, rfl, ?_⟩
     have HO91 := am (Kd.R_lower ho0 (below_size ab33_))
     replace BK69 := am (bbl_ BK69.out hb)
     replace HB := am (below_step ab33_ hb)
     (try clear hb)
     (try clear hb2)
     (try clear hk)
     (try clear hi)
     (try clear ho0)
     refine hK.out _ _ ⟨(blk_cell BK69.out 0).trans rfl, (blk_cell BK69.out 1).trans rfl, (blk_cell BK69.out 2).trans rfl, ((HB.out.cell (World.block_lt_of_cell? w _ hw88_0)).trans hw88_0), ((HB.out.cell (World.block_lt_of_cell? w _ hw88_1)).trans hw88_1), ((HB.out.cell (World.block_lt_of_cell? w _ hw88_2)).trans hw88_2), ((HB.out.cell (World.block_lt_of_cell? w _ hw89_0)).trans hw89_0), ((HB.out.cell (World.block_lt_of_cell? w _ hw89_1)).trans hw89_1), ((HB.out.cell (World.block_lt_of_cell? w _ hw89_2)).trans hw89_2)⟩ (fun hHeld => ?_)
     clear hK K
     refine norm_ (a' := ?_) ?_ ?_
     rotate_left
     ·show Act.put _ (some 26) _ = _
      simp only [Act.put, List.setIfInBounds_toArray, List.set_cons_zero, List.set_cons_succ, i64_w, i32_w]
      rfl
     refine one_ (i := 9) (N := some 31) (bz 14 2047) rfl rfl (one_of HT_.out (by kernel_rfl)) (by decide) (fun K hK => ?_)
     refine goes_ Tryz.func96 (by kernel_rfl) rfl #[.agg #[.int .i64 ((rd_T56 l0_2 0).f0), .int .i64 ((rd_T56 l0_2 0).f1), .slice A88_2 ((rd_T56 l0_2 0).f2).length c88_2]] (by rfl) rfl rfl ab1_ ?_
     with_reducible refine (spec_l5Level.calls ((rd_T56 l0_2 0).f0) ((rd_T56 l0_2 0).f1) _ _ ((rd_T56 l0_2 0).f2) t61 _ (aC_ (Kd.C_below HR89_2.out HB.out)) HC89_2.out A19.out).mono ?_
     rintro e w33 ⟨rfl, hb⟩
     refine ⟨_, rfl, ?_⟩
     replace HO91 := am (Kd.R_below (aR_ HO91.out) hb)
     replace BK69 := am (bbl_ BK69.out hb)
     replace HB := am (below_step ab33_ hb)
     (try clear hb)
     (try clear hb2)
     (try clear hk)
     (try clear hi)
     obtain ⟨Ao34, co34, eo34⟩ := Kd.R_slice HO91.out
     (first | subst eo34 | (injection eo34 with f1_ f2_ f3_; have f4_ := f1_.symm; have f5_ := f3_.symm; clear f1_ f2_ f3_; subst f4_; subst f5_))
     refine hK.out _ _ ⟨(blk_cell BK69.out 0).trans rfl, (blk_cell BK69.out 1).trans rfl, (blk_cell BK69.out 2).trans rfl, ((HB.out.cell (World.block_lt_of_cell? w _ hw88_0)).trans hw88_0), ((HB.out.cell (World.block_lt_of_cell? w _ hw88_1)).trans hw88_1), ((HB.out.cell (World.block_lt_of_cell? w _ hw88_2)).trans hw88_2), ((HB.out.cell (World.block_lt_of_cell? w _ hw89_0)).trans hw89_0), ((HB.out.cell (World.block_lt_of_cell? w _ hw89_1)).trans hw89_1), ((HB.out.cell (World.block_lt_of_cell? w _ hw89_2)).trans hw89_2)⟩ (fun hHeld => ?_)
     clear hK K
     refine norm_ (a' := ?_) ?_ ?_
     rotate_left
     ·show Act.put _ (some 31) _ = _
      simp only [Act.put, List.setIfInBounds_toArray, List.set_cons_zero, List.set_cons_succ, i64_w, i32_w]
      rfl
     refine pr_ 11 33 (bz 14 4095) HT_ ?_
     refine one_ (i := 12) (N := some 34) (bz 14 8191) rfl rfl (one_of HT_.out (by kernel_rfl)) (by decide) (fun K hK => ?_)
     refine goes_ Tryz.func95 (by kernel_rfl) rfl #[.slice Ao34 t60.length co34, .bool (decide (t61 < t59))] (by rfl) rfl rfl ab1_ ?_
     with_reducible refine (spec_l5Wrap.calls (fun k_ => some k_ = (.slice Ao34 t60.length co34 : Value).ownBlock) (.slice Ao34 t60.length co34) t60 (decide (t61 < t59)) t62 w _ ?side1 ?side2 A20.out).mono ?_
     (case side1 => exact ab33_)
     (case side2 => exact Kd.R_tight rfl HO91.out)
     rintro e w35 ⟨v92, rfl, ho0, hb, hkp⟩
     refine ⟨_, rfl, ?_⟩
     replace BK69 := am (blk_kept (aG_ BK69.out) hkp (fun hs_ => (fun e_ => (Kd.R_ne HO91.out BK69.out (by decide)) e_) hs_))
     have HO93 := am (Kd.R_mono (ok' := fun k_ => True) ho0 (fun k_ hk_ => trivial))
     replace HB := am (hb)
     clear HO91
     (try clear hb)
     (try clear hkp)
     (try clear ho0)
     refine hK.out _ _ ⟨(blk_cell BK69.out 0).trans rfl, (blk_cell BK69.out 1).trans rfl, (blk_cell BK69.out 2).trans rfl, ((HB.out.cell (World.block_lt_of_cell? w _ hw88_0)).trans hw88_0), ((HB.out.cell (World.block_lt_of_cell? w _ hw88_1)).trans hw88_1), ((HB.out.cell (World.block_lt_of_cell? w _ hw88_2)).trans hw88_2), ((HB.out.cell (World.block_lt_of_cell? w _ hw89_0)).trans hw89_0), ((HB.out.cell (World.block_lt_of_cell? w _ hw89_1)).trans hw89_1), ((HB.out.cell (World.block_lt_of_cell? w _ hw89_2)).trans hw89_2)⟩ (fun hHeld => ?_)
     clear hK K
     refine norm_ (a' := ?_) ?_ ?_
     rotate_left
     ·show Act.put _ (some 34) _ = _
      simp only [Act.put, List.setIfInBounds_toArray, List.set_cons_zero, List.set_cons_succ, i64_w, i32_w]
      rfl
     refine pr_ 13 4 (bz 14 16383) HT_ ?_
     refine done_ (done_of HT_.out (by kernel_rfl)) ?_
     obtain ⟨hcz36_0, hcz36_1, hcz36_2, hfz36_0, hfz36_1, hfz36_2⟩ := bcf3_ BK69.out
     try go_wp2_with (first | ((with_reducible refine gate_callee (f := 97) rfl ?_); refine gl_ 38 Tryz.func97 #[.int .i64 a0_0] ?_; (with_reducible refine (spec_OpText.calls a0_0 t63 _ A21.out).mono ?_); rintro e w37 ⟨rfl, hb⟩; refine ⟨_, rfl, ?_⟩; replace HO93 := am (Kd.R_below (aR_ HO93.out) hb); replace BK69 := am (bbl_ BK69.out hb); replace HB := am (below_step ab33_ hb); (try clear hb)) | ((with_reducible refine gate_builtin (b := .append) (xs := #[.tmp 35, .tmp 39]) rfl ?_); at_builtin; refine Kd.R_append Kd.string (w0 := w) w.heap.size rfl (.tmp 35) (.tmp 39) 29 9 (.string ⟨#[]⟩) 16 rfl Tryz.underlying29 info9 rfl (by decide) (by omega) v92 t62 t63 [.string t63] (fun _ => True) (fun _ => False) rfl rfl ?aP (fun _ hk => hk.elim) ?aF ?aO ?aB ?aS ?aL ?_; (case aP => exact rfl); (case aB => exact ab33_); (case aF => exact (fun _ _ => trivial)); (case aO => exact (aR_ HO93.out)); (case aS => exact (below_size ab33_)); (case aL => have := LMc22.out; omega); intro v98 w38 ho hb hg hat; rw [← Ny65.out] at ho; replace BK69 := am (blk_grown (g := gb69) (o := .cells #[.int .i64 a0_0, .int .i64 a0_1, .slice (some ad88) l0_2.length c0_2] 56 (0, 0)) (aG_ BK69.out) hg (Kd.R_ne HO93.out BK69.out (by decide))); replace HB := am (hb); have HO99 := am (ho); clear HO93 ho hb hg hat))
     replace HO99 := am (Kd.R_drew HO99.out)
     replace BK69 := am (blk_drew BK69.out)
     replace HB := am (below_drew1 HB.out)
     have p101 : 0 ≤ (1 : Int) := (by omega)
     have q101 : 1 < (l0_2.length : Int) := of_decide_eq_true asm_
     obtain ⟨ad101, A101_2, c101_2, e101, hx101_0, hx101_1, hx101_2, hl101_2, hi101_2⟩ := at_T56 HR0_2.out 1 p101 q101
     have hw101_2 := hx101_2
     (try rw [show ((1 : Int)).toNat = 1 from rfl] at hw101_2)
     (try rw [show 1 * 3 = 3 from rfl] at hw101_2)
     (try simp only [Nat.reduceMul, Nat.reduceEqDiff, Go.Addr.add, ↓reduceIte] at hw101_2)
     have hw101_1 := hx101_1
     (try rw [show ((1 : Int)).toNat = 1 from rfl] at hw101_1)
     (try rw [show 1 * 3 = 3 from rfl] at hw101_1)
     (try simp only [Nat.reduceMul, Nat.reduceEqDiff, Go.Addr.add, ↓reduceIte] at hw101_1)
     have hw101_0 := hx101_0
     (try rw [show ((1 : Int)).toNat = 1 from rfl] at hw101_0)
     (try rw [show 1 * 3 = 3 from rfl] at hw101_0)
     (try simp only [Nat.reduceMul, Nat.reduceEqDiff, Go.Addr.add, ↓reduceIte] at hw101_0)
     obtain rfl : ad88 = ad101 := (by injection e101)
     (try simp only [show (1 : Int).toNat = 1 from rfl, Nat.reduceMul, Nat.reduceEqDiff, Go.Addr.add, ↓reduceIte] at hx101_0)
     (try simp only [show (1 : Int).toNat = 1 from rfl, Nat.reduceMul, Nat.reduceEqDiff, Go.Addr.add, ↓reduceIte] at hx101_1)
     (try simp only [show (1 : Int).toNat = 1 from rfl, Nat.reduceMul, Nat.reduceEqDiff, Go.Addr.add, ↓reduceIte] at hx101_2)
     have qi101 : (1 < l0_2.length) = True := eq_true (by omega)
     (try rw [show ((1 : Int)).toNat = 1 from rfl] at hx101_0)
     (try rw [show 1 * 3 = 3 from rfl] at hx101_0)
     (try rw [show ((1 : Int)).toNat = 1 from rfl] at hx101_1)
     (try rw [show 1 * 3 = 3 from rfl] at hx101_1)
     (try rw [show ((1 : Int)).toNat = 1 from rfl] at hx101_2)
     (try rw [show 1 * 3 = 3 from rfl] at hx101_2)
     replace hx101_0 := (HB.out.cell (World.block_lt_of_cell? w _ hx101_0)).trans hx101_0
     replace hx101_1 := (HB.out.cell (World.block_lt_of_cell? w _ hx101_1)).trans hx101_1
     replace hx101_2 := (HB.out.cell (World.block_lt_of_cell? w _ hx101_2)).trans hx101_2
     have HR101_2 := am hi101_2
     have HC101_2 := am hl101_2
     clear hi101_2 hl101_2
     replace p101 := eq_true p101
     replace q101 := eq_true q101
     have p102 : 0 ≤ (1 : Int) := (by omega)
     have q102 : 1 < (l0_2.length : Int) := of_decide_eq_true asm_
     obtain ⟨ad102, A102_2, c102_2, e102, hx102_0, hx102_1, hx102_2, hl102_2, hi102_2⟩ := at_T56 HR0_2.out 1 p102 q102
     have hw102_2 := hx102_2
     (try rw [show ((1 : Int)).toNat = 1 from rfl] at hw102_2)
     (try rw [show 1 * 3 = 3 from rfl] at hw102_2)
     (try simp only [Nat.reduceMul, Nat.reduceEqDiff, Go.Addr.add, ↓reduceIte] at hw102_2)
     have hw102_1 := hx102_1
     (try rw [show ((1 : Int)).toNat = 1 from rfl] at hw102_1)
     (try rw [show 1 * 3 = 3 from rfl] at hw102_1)
     (try simp only [Nat.reduceMul, Nat.reduceEqDiff, Go.Addr.add, ↓reduceIte] at hw102_1)
     have hw102_0 := hx102_0
     (try rw [show ((1 : Int)).toNat = 1 from rfl] at hw102_0)
     (try rw [show 1 * 3 = 3 from rfl] at hw102_0)
     (try simp only [Nat.reduceMul, Nat.reduceEqDiff, Go.Addr.add, ↓reduceIte] at hw102_0)
     obtain rfl : ad88 = ad102 := (by injection e102)
     (try simp only [show (1 : Int).toNat = 1 from rfl, Nat.reduceMul, Nat.reduceEqDiff, Go.Addr.add, ↓reduceIte] at hx102_0)
     (try simp only [show (1 : Int).toNat = 1 from rfl, Nat.reduceMul, Nat.reduceEqDiff, Go.Addr.add, ↓reduceIte] at hx102_1)
     (try simp only [show (1 : Int).toNat = 1 from rfl, Nat.reduceMul, Nat.reduceEqDiff, Go.Addr.add, ↓reduceIte] at hx102_2)
     have qi102 : (1 < l0_2.length) = True := eq_true (by omega)
     (try rw [show ((1 : Int)).toNat = 1 from rfl] at hx102_0)
     (try rw [show 1 * 3 = 3 from rfl] at hx102_0)
     (try rw [show ((1 : Int)).toNat = 1 from rfl] at hx102_1)
     (try rw [show 1 * 3 = 3 from rfl] at hx102_1)
     (try rw [show ((1 : Int)).toNat = 1 from rfl] at hx102_2)
     (try rw [show 1 * 3 = 3 from rfl] at hx102_2)
     replace hx102_0 := (HB.out.cell (World.block_lt_of_cell? w _ hx102_0)).trans hx102_0
     replace hx102_1 := (HB.out.cell (World.block_lt_of_cell? w _ hx102_1)).trans hx102_1
     replace hx102_2 := (HB.out.cell (World.block_lt_of_cell? w _ hx102_2)).trans hx102_2
     have HR102_2 := am hi102_2
     have HC102_2 := am hl102_2
     clear hi102_2 hl102_2
     replace p102 := eq_true p102
     replace q102 := eq_true q102
     have ea_ := Option.some.inj (hx101_2.symm.trans hx102_2)
     injection ea_ with ea_ en_ ec_
     subst ea_
     subst ec_
     clear en_
     refine start_ (n := 16) (S := fun w' => w'.cell? ⟨gb69, 0, none⟩ = some (.int .i64 a0_0) ∧ w'.cell? ⟨gb69, 1, none⟩ = some (.int .i64 a0_1) ∧ w'.cell? ⟨gb69, 2, none⟩ = some (.slice (some ad88) l0_2.length c0_2) ∧ w'.cell? ⟨ad88.block, ad88.off + 3, none⟩ = some (.int .i64 ((rd_T56 l0_2 1).f0)) ∧ w'.cell? ⟨ad88.block, ad88.off + 3 + 1, none⟩ = some (.int .i64 ((rd_T56 l0_2 1).f1)) ∧ w'.cell? ⟨ad88.block, ad88.off + 3 + 2, none⟩ = some (.slice A101_2 ((rd_T56 l0_2 1).f2).length c101_2) ∧ w'.cell? ⟨ad88.block, ad88.off + 3, none⟩ = some (.int .i64 ((rd_T56 l0_2 1).f0)) ∧ w'.cell? ⟨ad88.block, ad88.off + 3 + 1, none⟩ = some (.int .i64 ((rd_T56 l0_2 1).f1)) ∧ w'.cell? ⟨ad88.block, ad88.off + 3 + 2, none⟩ = some (.slice A101_2 ((rd_T56 l0_2 1).f2).length c101_2)) (ds := []) (bz 16 0) (by kernel_rfl) rfl rfl ⟨(blk_cell BK69.out 0).trans rfl, (blk_cell BK69.out 1).trans rfl, (blk_cell BK69.out 2).trans rfl, ((HB.out.cell (World.block_lt_of_cell? w _ hw101_0)).trans hw101_0), ((HB.out.cell (World.block_lt_of_cell? w _ hw101_1)).trans hw101_1), ((HB.out.cell (World.block_lt_of_cell? w _ hw101_2)).trans hw101_2), ((HB.out.cell (World.block_lt_of_cell? w _ hw102_0)).trans hw102_0), ((HB.out.cell (World.block_lt_of_cell? w _ hw102_1)).trans hw102_1), ((HB.out.cell (World.block_lt_of_cell? w _ hw102_2)).trans hw102_2)⟩ (fun hHeld => ?_); refine with_tabW spec_l5Tokens.tab8 spec_l5Tokens.bits8 (fun HT_ HW_ => ?_)
     generalize w38.drew = w39 at HO99 BK69 HB HR101_2 HR102_2 hx101_0 hx101_1 hx101_2 hx102_0 hx102_1 hx102_2 hHeld ⊢
     refine pr_ 0 41 (bz 16 1) HT_ ?_
     refine pr_ 1 42 (bz 16 3) HT_ ?_
     refine pr_ 6 47 (bz 16 67) HT_ ?_
     refine pr_ 11 52 (bz 16 2115) HT_ ?_
     refine tk9_ 2 43 (bz 16 2119) HT_ HW_ hHeld ?_
     refine pr_ 3 44 (bz 16 2127) HT_ ?_
     refine tk9_ 4 45 (bz 16 2143) HT_ HW_ hHeld ?_
     refine tk9_ 7 48 (bz 16 2271) HT_ HW_ hHeld ?_
     refine pr_ 8 49 (bz 16 2527) HT_ ?_
     refine tk9_ 9 50 (bz 16 3039) HT_ HW_ hHeld ?_
     refine one_ (i := 5) (N := some 46) (bz 16 3071) rfl rfl (one_of HT_.out (by kernel_rfl)) (by decide) (fun K hK => ?_)
     refine goes_ Tryz.func74 (by kernel_rfl) rfl #[.agg #[.int .i64 ((rd_T56 l0_2 1).f0), .int .i64 ((rd_T56 l0_2 1).f1), .slice A101_2 ((rd_T56 l0_2 1).f2).length c101_2]] (by rfl) rfl rfl ab1_ ?_
     with_reducible refine (ih k (by omega) ((rd_T56 l0_2 1).f0) ((rd_T56 l0_2 1).f1) _ _ ((rd_T56 l0_2 1).f2) t66 _ (aC_ (Kd.C_below HR101_2.out HB.out)) HC101_2.out A24.out).mono ?_
     rintro e w40 ⟨v103, rfl, ho0, hb⟩
     refine ⟨_, rfl, ?_⟩
     have HO104 := am (Kd.R_lower (Kd.R_new' ho0 (Kd.R_lt (aR_ HO99.out))) (below_size ab33_))
     replace HO99 := am (Kd.R_elder' (aR_ HO99.out) (Kd.R_base ho0) hb)
     replace BK69 := am (bbl_ BK69.out hb)
     replace HB := am (below_step ab33_ hb)
     (try clear hb)
     (try clear hb2)
     (try clear hk)
     (try clear hi)
     (try clear ho0)
     refine hK.out _ _ ⟨(blk_cell BK69.out 0).trans rfl, (blk_cell BK69.out 1).trans rfl, (blk_cell BK69.out 2).trans rfl, ((HB.out.cell (World.block_lt_of_cell? w _ hw101_0)).trans hw101_0), ((HB.out.cell (World.block_lt_of_cell? w _ hw101_1)).trans hw101_1), ((HB.out.cell (World.block_lt_of_cell? w _ hw101_2)).trans hw101_2), ((HB.out.cell (World.block_lt_of_cell? w _ hw102_0)).trans hw102_0), ((HB.out.cell (World.block_lt_of_cell? w _ hw102_1)).trans hw102_1), ((HB.out.cell (World.block_lt_of_cell? w _ hw102_2)).trans hw102_2)⟩ (fun hHeld => ?_)
     clear hK K
     refine norm_ (a' := ?_) ?_ ?_
     rotate_left
     ·show Act.put _ (some 46) _ = _
      simp only [Act.put, List.setIfInBounds_toArray, List.set_cons_zero, List.set_cons_succ, i64_w, i32_w]
      rfl
     refine one_ (i := 10) (N := some 51) (bz 16 4095) rfl rfl (one_of HT_.out (by kernel_rfl)) (by decide) (fun K hK => ?_)
     refine goes_ Tryz.func96 (by kernel_rfl) rfl #[.agg #[.int .i64 ((rd_T56 l0_2 1).f0), .int .i64 ((rd_T56 l0_2 1).f1), .slice A101_2 ((rd_T56 l0_2 1).f2).length c101_2]] (by rfl) rfl rfl ab1_ ?_
     with_reducible refine (spec_l5Level.calls ((rd_T56 l0_2 1).f0) ((rd_T56 l0_2 1).f1) _ _ ((rd_T56 l0_2 1).f2) t67 _ (aC_ (Kd.C_below HR102_2.out HB.out)) HC102_2.out A25.out).mono ?_
     rintro e w41 ⟨rfl, hb⟩
     refine ⟨_, rfl, ?_⟩
     replace HO99 := am (Kd.R_below (aR_ HO99.out) hb)
     replace HO104 := am (Kd.R_below (aR_ HO104.out) hb)
     replace BK69 := am (bbl_ BK69.out hb)
     replace HB := am (below_step ab33_ hb)
     (try clear hb)
     (try clear hb2)
     (try clear hk)
     (try clear hi)
     obtain ⟨Ao42, co42, eo42⟩ := Kd.R_slice HO104.out
     (first | subst eo42 | (injection eo42 with f1_ f2_ f3_; have f4_ := f1_.symm; have f5_ := f3_.symm; clear f1_ f2_ f3_; subst f4_; subst f5_))
     refine hK.out _ _ ⟨(blk_cell BK69.out 0).trans rfl, (blk_cell BK69.out 1).trans rfl, (blk_cell BK69.out 2).trans rfl, ((HB.out.cell (World.block_lt_of_cell? w _ hw101_0)).trans hw101_0), ((HB.out.cell (World.block_lt_of_cell? w _ hw101_1)).trans hw101_1), ((HB.out.cell (World.block_lt_of_cell? w _ hw101_2)).trans hw101_2), ((HB.out.cell (World.block_lt_of_cell? w _ hw102_0)).trans hw102_0), ((HB.out.cell (World.block_lt_of_cell? w _ hw102_1)).trans hw102_1), ((HB.out.cell (World.block_lt_of_cell? w _ hw102_2)).trans hw102_2)⟩ (fun hHeld => ?_)
     clear hK K
     refine norm_ (a' := ?_) ?_ ?_
     rotate_left
     ·show Act.put _ (some 51) _ = _
      simp only [Act.put, List.setIfInBounds_toArray, List.set_cons_zero, List.set_cons_succ, i64_w, i32_w]
      rfl
     refine pr_ 12 53 (bz 16 8191) HT_ ?_
     refine one_ (i := 13) (N := some 54) (bz 16 16383) rfl rfl (one_of HT_.out (by kernel_rfl)) (by decide) (fun K hK => ?_)
     refine goes_ Tryz.func95 (by kernel_rfl) rfl #[.slice Ao42 t66.length co42, .bool (decide (t67 ≤ t59))] (by rfl) rfl rfl ab1_ ?_
     with_reducible refine (spec_l5Wrap.calls (fun k_ => some k_ = (.slice Ao42 t66.length co42 : Value).ownBlock) (.slice Ao42 t66.length co42) t66 (decide (t67 ≤ t59)) t68 w _ ?side1 ?side2 A26.out).mono ?_
     (case side1 => exact ab33_)
     (case side2 => exact Kd.R_tight rfl HO104.out)
     rintro e w43 ⟨v105, rfl, ho0, hb, hkp⟩
     refine ⟨_, rfl, ?_⟩
     replace BK69 := am (blk_kept (aG_ BK69.out) hkp (fun hs_ => (fun e_ => (Kd.R_ne HO104.out BK69.out (by decide)) e_) hs_))
     have HO106 := am (Kd.R_mono (ok' := fun k_ => some k_ ≠ (v98 : Value).ownBlock) ho0 (fun k_ hk_ => Or.elim hk_ (fun hs_ => fun e_ => (((HO99.out).1 k_ e_.symm).2) hs_) (fun hn_ => (Kd.fresh' (Kd.R_lt (aR_ HO99.out)) k_ hn_))))
     replace HO99 := am (Kd.R_mono (ok' := fun k_ => some k_ ≠ (v105 : Value).ownBlock) (Kd.R_keptB (HO99.out) hkp (fun k_ hk_ hs_ => (hk_.2) hs_)) (fun k_ hk_ => fun e_ => Or.elim (ho0.1 k_ e_.symm) (fun hs_ => hk_.2.1 hs_) (fun hn_ => Nat.not_le.2 hk_.2.2 hn_)))
     replace HB := am (hb)
     clear HO104
     (try clear hb)
     (try clear hkp)
     (try clear ho0)
     obtain ⟨Ao45, co45, eo45⟩ := Kd.R_slice HO106.out
     (first | subst eo45 | (injection eo45 with f1_ f2_ f3_; have f4_ := f1_.symm; have f5_ := f3_.symm; clear f1_ f2_ f3_; subst f4_; subst f5_))
     refine hK.out _ _ ⟨(blk_cell BK69.out 0).trans rfl, (blk_cell BK69.out 1).trans rfl, (blk_cell BK69.out 2).trans rfl, ((HB.out.cell (World.block_lt_of_cell? w _ hw101_0)).trans hw101_0), ((HB.out.cell (World.block_lt_of_cell? w _ hw101_1)).trans hw101_1), ((HB.out.cell (World.block_lt_of_cell? w _ hw101_2)).trans hw101_2), ((HB.out.cell (World.block_lt_of_cell? w _ hw102_0)).trans hw102_0), ((HB.out.cell (World.block_lt_of_cell? w _ hw102_1)).trans hw102_1), ((HB.out.cell (World.block_lt_of_cell? w _ hw102_2)).trans hw102_2)⟩ (fun hHeld => ?_)
     clear hK K
     refine norm_ (a' := ?_) ?_ ?_
     rotate_left
     ·show Act.put _ (some 54) _ = _
      simp only [Act.put, List.setIfInBounds_toArray, List.set_cons_zero, List.set_cons_succ, i64_w, i32_w]
      rfl
     refine one_ (i := 14) (N := some 55) (bz 16 32767) rfl rfl (one_of HT_.out (by kernel_rfl)) (by decide) (fun K hK => ?_)
     refine Kd.R_append_rows_step Kd.string (w0 := w) w.heap.size (by rfl) (.tmp 41) (.tmp 54) 29 9 (.string ⟨#[]⟩) 16 rfl Tryz.underlying29 info9 rfl (by decide) (by omega) v98 y65 t68 _ _ _ (fun k_ => some k_ ≠ (.slice Ao45 t68.length co45 : Value).ownBlock) (fun _ => False) rfl rfl ?aO ?aR (fun _ _ h => h) (fun _ h => h.elim) ?aF ?aB ?aS ?aL ?_
     (case aR => repeat (first | exact (Kd.R_reads' HO106.out).2.2 | (with_reducible refine Kd.C_alloc ?_ _) | (with_reducible refine Kd.C_drewN ?_ _) | (with_reducible refine Kd.C_drew ?_)))
     (case aB => exact ab33_)
     (case aF => exact (fun k_ hk => Kd.fresh' (Kd.R_lt (aR_ HO106.out)) k_ hk))
     (case aO => exact (aR_ HO99.out))
     (case aS => exact (below_size ab33_))
     (case aL => have := LMc27.out; omega)
     intro v107 w44 ho hb hg hat
     rw [← Ny87.out] at ho
     replace BK69 := am (blk_grown (g := gb69) (o := .cells #[.int .i64 a0_0, .int .i64 a0_1, .slice (some ad88) l0_2.length c0_2] 56 (0, 0)) (aG_ BK69.out) hg (Kd.R_ne HO99.out BK69.out (by decide)))
     replace HO106 := am (Kd.R_after (ok := (fun _ => True)) (aRw_ (Kd.R_mono HO106.out (fun _ hk => ⟨trivial, hk⟩))) hg hat)
     replace HB := am (hb)
     have HO108 := am (ho)
     clear HO99
     clear ho hb hg hat
     refine hK.out _ _ ⟨(blk_cell BK69.out 0).trans rfl, (blk_cell BK69.out 1).trans rfl, (blk_cell BK69.out 2).trans rfl, ((HB.out.cell (World.block_lt_of_cell? w _ hw101_0)).trans hw101_0), ((HB.out.cell (World.block_lt_of_cell? w _ hw101_1)).trans hw101_1), ((HB.out.cell (World.block_lt_of_cell? w _ hw101_2)).trans hw101_2), ((HB.out.cell (World.block_lt_of_cell? w _ hw102_0)).trans hw102_0), ((HB.out.cell (World.block_lt_of_cell? w _ hw102_1)).trans hw102_1), ((HB.out.cell (World.block_lt_of_cell? w _ hw102_2)).trans hw102_2)⟩ (fun hHeld => ?_)
     clear hK K
     refine norm_ (a' := ?_) ?_ ?_
     rotate_left
     ·show Act.put _ (some 55) _ = _
      simp only [Act.put, List.setIfInBounds_toArray, List.set_cons_zero, List.set_cons_succ, i64_w, i32_w]
      rfl
     refine pr_ 15 2 (bz 16 65535) HT_ ?_
     refine done_ (done_of HT_.out (by kernel_rfl)) ?_
     try go_wp2
     go_ret
     exact ⟨_, ab13_, aRw_ (Kd.R_mono HO108.out (fun _ hk => trivial)), ab33_⟩
    rw [if_neg c27] at H
    exact absurd H (by simp)
   rw [if_neg c23] at H
   exact absurd H (by simp)
  rw [if_neg c22] at H
  exact absurd H (by simp)
 rw [if_neg c17] at H
 exact absurd H (by simp)
theorem spec_l13Line.mono : ∀ a0 a1 a2 a3 k, LeO (spec_l13Line.f k a0 a1 a2 a3) (spec_l13Line.f (k + 1) a0 a1 a2 a3) := by
 intro a0 a1 a2 a3 k
 unfold spec_l13Line.f
 have m0 := @spec_l5Tokens.mono
 exact mo_
theorem spec_l13Line.calls (k : Nat) (P0_ : Nat → Prop) (u20_ : Value) (l0 : List ByteArray) (a1_0 : Int) (a1_1 : Int) (A1_2 : Option Addr) (c1_2 : Nat) (l1_2 : List (S56)) (r : List ByteArray) (w0 w : World) (hB : Below w0.heap.size w0 w) (ho0 : Kd.R Kd.string 9 w w0.heap.size P0_ u20_ l0) (hr1_2 : ∀ W_, Kept w W_ (fun k_ => P0_ k_) → Kd.C k56 W_ A1_2 l1_2.length l1_2) (hc1_2 : l1_2.length ≤ c1_2) (h : spec_l13Line.f k l0 a1_0 a1_1 l1_2 = some r) :
  Calls Tryz.prog 72 #[u20_, .agg #[.int .i64 a1_0, .int .i64 a1_1, .slice A1_2 l1_2.length c1_2]] w fun e w' => ∃ v0_ : Value, e = .returned (v0_) ∧ Kd.R Kd.string 9 w' w0.heap.size (fun k_ => (P0_ k_ ∨ w.heap.size ≤ k_)) v0_ r ∧ Below w0.heap.size w0 w' ∧ Kept w w' (fun k_ => P0_ k_) := by
 have hu56 := Tryz.underlying56
 have HO0 := am (show Kd.R Kd.string 9 w w0.heap.size (fun k_ => (P0_ k_ ∨ w.heap.size ≤ k_)) u20_ l0 from Kd.R_mono ho0 (fun k_ hk => (.inl hk)))
 have HR1_2 := am hr1_2
 have HC1_2 := am hc1_2
 clear hr1_2 hc1_2
 have HK := am (Kept.refl w (fun k_ => P0_ k_))
 have HW0 := am hB.size
 have HB := am hB
 clear hB
 have H : ((spec_l5Tokens.f k a1_0 a1_1 l1_2).bind fun t21 => (if l0.length + t21.length < 8796093022208 then ((some (l0 ++ t21 : List ByteArray)).bind fun y22 => (if y22.length < 8796093022208 then (some (y22 ++ [(⟨#[59]⟩ : ByteArray)])) else (none))) else (none))) = some r := h
 clear h
 obtain ⟨t21, A3, H⟩ := bsa H
 (try dsimp only at H)
 by_cases c4 : l0.length + t21.length < 8796093022208
 ·rw [if_pos c4] at H
  have LMc4 := am c4
  clear c4
  obtain ⟨y22, hy_⟩ : ∃ y_ : List ByteArray, y_ = (l0 ++ t21) := ⟨_, rfl⟩
  replace H : (if y22.length < 8796093022208 then (some (y22 ++ [(⟨#[59]⟩ : ByteArray)])) else (none)) = some r := rx_
  have Ny22 := am hy_
  clear hy_
  by_cases c5 : y22.length < 8796093022208
  ·rw [if_pos c5] at H
   have LMc5 := am c5
   clear c5
   obtain ⟨y23, hy_⟩ : ∃ y_ : List ByteArray, y_ = (y22 ++ [(⟨#[59]⟩ : ByteArray)]) := ⟨_, rfl⟩
   replace H : (some y23) = some r := rx_
   have Ny23 := am hy_
   clear hy_
   obtain rfl := Option.some.inj H
   go_enter Tryz.func72, Tryz.ntmps72
   go_wp2_with (first | ((with_reducible refine gate_dst (N := 3) rfl ?_); refine box_event rfl (N := 3) rfl (cs := #[.int .i64 a1_0, .int .i64 a1_1, .slice A1_2 l1_2.length c1_2]) (t := 56) rn_ ?_; intro gb24 hg w6 hbox hb; replace HO0 := am (Kd.R_below (aR_ HO0.out) hb); have BK24 := am (hbox); have GW24 := am ((by rw [hg]; exact (by first | exact HK.out.1 | exact (show Kept w _ (fun k_ => P0_ k_) from ab36_).1) : w.heap.size ≤ gb24)); replace HK := am (Kept.below (S := (fun k_ => P0_ k_)) ab36_ hb); have GE24 := am ((by rw [hg]; exact (below_size ab2_) : w0.heap.size ≤ gb24)); replace HB := am (below_step ab2_ hb); clear hb hbox hg; obtain ⟨hcz7_0, hcz7_1, hcz7_2, hfz7_0, hfz7_1, hfz7_2⟩ := bcf3_ BK24.out) | ((with_reducible refine gate_callee (f := 74) rfl ?_); refine gl_ 8 Tryz.func74 #[.agg #[.int .i64 a1_0, .int .i64 a1_1, .slice A1_2 l1_2.length c1_2]] ?_; (with_reducible refine (spec_l5Tokens.calls k a1_0 a1_1 _ _ l1_2 t21 _ ?side1 HC1_2.out A3.out).mono ?_); (case side1 => exact Kd.C_kept_now HR1_2.out ab69_); rintro e w8 ⟨v25, rfl, ho0, hb⟩; refine ⟨_, rfl, ?_⟩; have HO26 := am (Kd.R_lower (Kd.R_new' (Kd.R_newM (M := fun k_ => (P0_ k_ ∨ w.heap.size ≤ k_)) ho0 (by first | exact HK.out.1 | exact (show Kept w _ (fun k_ => P0_ k_) from ab69_).1) (fun k_ h_ => .inr h_)) (Kd.R_lt (aR_ HO0.out))) (below_size ab75_)); replace HO0 := am (Kd.R_elder' (aR_ HO0.out) (Kd.R_base ho0) hb); replace BK24 := am (bbl_ BK24.out hb); replace HK := am (Kept.below (S := (fun k_ => P0_ k_)) ab69_ hb); replace HB := am (below_step ab75_ hb); (try clear hb); (try clear ho0); obtain ⟨Ao10, co10, eo10⟩ := Kd.R_slice HO26.out; subst eo10) | ((with_reducible refine gate_builtin (b := .append) (xs := #[.tmp 6, .tmp 8]) rfl ?_); at_builtin; refine Kd.R_append_rows Kd.string (w0 := w0) w0.heap.size rfl (.tmp 6) (.tmp 8) 29 9 (.string ⟨#[]⟩) 16 rfl Tryz.underlying29 info9 rfl (by decide) (by omega) u20_ l0 t21 _ _ _ (fun k_ => (P0_ k_ ∨ w.heap.size ≤ k_) ∧ some k_ ≠ (.slice Ao10 t21.length co10 : Value).ownBlock) (fun _ => False) rfl rfl ?aO ?aR (fun _ _ h => h) (fun _ h => h.elim) ?aF ?aB ?aS ?aL ?_; (case aR => repeat (first | exact (Kd.R_reads' HO26.out).2.2 | (with_reducible refine Kd.C_alloc ?_ _) | (with_reducible refine Kd.C_drewN ?_ _) | (with_reducible refine Kd.C_drew ?_))); (case aB => exact ab75_); (case aF => exact (fun k_ hk => ⟨(.inr (Nat.le_trans (by first | exact HK.out.1 | exact (show Kept w _ (fun k_ => P0_ k_) from ab69_).1) hk)), Kd.fresh' (Kd.R_lt (aR_ HO26.out)) k_ hk⟩)); (case aO => exact (aR_ HO0.out)); (case aS => exact (below_size ab75_)); (case aL => have := LMc4.out; omega); intro v27 w9 ho hb hg hat; rw [← Ny22.out] at ho; replace BK24 := am (blk_grown (g := gb24) (o := .cells #[.int .i64 a1_0, .int .i64 a1_1, .slice A1_2 l1_2.length c1_2] 56 (0, 0)) (aG_ BK24.out) hg (Kd.R_ne HO0.out BK24.out (by decide))); replace HO26 := am (Kd.R_after (ok := (fun k_ => (P0_ k_ ∨ w.heap.size ≤ k_))) (aRw_ (Kd.R_mono HO26.out (fun _ hk => ⟨hk.1.1, hk.2⟩))) hg hat); replace HB := am (hb); replace HK := am (Kept.of_grown (S := (fun k_ => P0_ k_)) hg ab69_ (fun k_ e_ => (HO0.out.1 k_ e_).1)); have HO28 := am (ho); clear HO0 ho hb hg hat) | ((with_reducible refine gate_builtin (b := .append) (xs := #[.tmp 10, .tmp 11]) rfl ?_); at_builtin; refine Kd.R_append Kd.string (w0 := w0) w0.heap.size rfl (.tmp 10) (.tmp 11) 29 9 (.string ⟨#[]⟩) 16 rfl Tryz.underlying29 info9 rfl (by decide) (by omega) v27 y22 (⟨#[59]⟩ : ByteArray) [.string (⟨#[59]⟩ : ByteArray)] (fun k_ => (P0_ k_ ∨ w.heap.size ≤ k_) ∧ some k_ ≠ (.slice Ao10 t21.length co10 : Value).ownBlock) (fun _ => False) rfl rfl ?aP (fun _ hk => hk.elim) ?aF ?aO ?aB ?aS ?aL ?_; (case aP => exact rfl); (case aB => exact ab75_); (case aF => exact (fun k_ hk => ⟨(.inr (Nat.le_trans (by first | exact HK.out.1 | exact (show Kept w _ (fun k_ => P0_ k_) from ab69_).1) hk)), Kd.fresh' (Kd.R_lt (aR_ HO26.out)) k_ hk⟩)); (case aO => exact (aR_ HO28.out)); (case aS => exact (below_size ab75_)); (case aL => have := LMc5.out; omega); intro v31 w11 ho hb hg hat; rw [← Ny23.out] at ho; replace BK24 := am (blk_grown (g := gb24) (o := .cells #[.int .i64 a1_0, .int .i64 a1_1, .slice A1_2 l1_2.length c1_2] 56 (0, 0)) (aG_ BK24.out) hg (Kd.R_ne HO28.out BK24.out (by decide))); replace HO26 := am (Kd.R_after (ok := (fun k_ => (P0_ k_ ∨ w.heap.size ≤ k_))) (aR_ HO26.out) hg hat); replace HB := am (hb); replace HK := am (Kept.of_grown (S := (fun k_ => P0_ k_)) hg ab69_ (fun k_ e_ => (HO28.out.1 k_ e_).1)); have HO32 := am (ho); clear HO28 ho hb hg hat))
   go_ret
   exact ⟨_, ab13_, aRw_ (Kd.R_mono HO32.out (fun _ hk => hk.1)), ab75_, ab69_⟩
  rw [if_neg c5] at H
  exact absurd H (by simp)
 rw [if_neg c4] at H
 exact absurd H (by simp)
theorem spec_l13Stmt.mono_all : ∀ k, (∀ y0 y1 y2 y3 y4 y5 y6 y7, LeO (spec_l13Stmt.f k y0 y1 y2 y3 y4 y5 y6 y7) (spec_l13Stmt.f (k + 1) y0 y1 y2 y3 y4 y5 y6 y7)) ∧ (∀ y0, LeO (spec_l13Block.f k y0) (spec_l13Block.f (k + 1) y0)) ∧ (∀ y0 y1 y2, LeO (spec_l13Block.l0 k y0 y1 y2) (spec_l13Block.l0 (k + 1) y0 y1 y2))
 | 0 => ⟨fun _ _ _ _ _ _ _ _ r h => by simp [spec_l13Stmt.f] at h, fun _ r h => by simp [spec_l13Block.f] at h, fun _ _ _ r h => by simp [spec_l13Block.l0] at h⟩
 | k + 1 => by
  obtain ⟨ih0, ih1, ih2⟩ := spec_l13Stmt.mono_all k
  refine ⟨?_, ?_, ?_⟩
  ·intro y0 y1 y2 y3 y4 y5 y6 y7
   unfold spec_l13Stmt.f
   have m0 := @spec_l13Line.mono
   have m1 := @spec_l5Tokens.mono
   have m2 := @spec_l6Dec.mono
   exact mo_
  ·intro y0
   unfold spec_l13Block.f
   have m0 := @spec_l13Line.mono
   have m1 := @spec_l5Tokens.mono
   have m2 := @spec_l6Dec.mono
   exact mo_
  ·intro y0 y1 y2
   unfold spec_l13Block.l0
   have m0 := @spec_l13Line.mono
   have m1 := @spec_l5Tokens.mono
   have m2 := @spec_l6Dec.mono
   exact mo_
theorem spec_l13Stmt.mono : ∀ a0 a1 a2 a3 a4 a5 a6 a7 k, LeO (spec_l13Stmt.f k a0 a1 a2 a3 a4 a5 a6 a7) (spec_l13Stmt.f (k + 1) a0 a1 a2 a3 a4 a5 a6 a7) := by
 intro a0 a1 a2 a3 a4 a5 a6 a7 k
 obtain ⟨ih0, ih1, ih2⟩ := spec_l13Stmt.mono_all k
 exact ih0 a0 a1 a2 a3 a4 a5 a6 a7
theorem spec_l13Block.mono : ∀ a0 k, LeO (spec_l13Block.f k a0) (spec_l13Block.f (k + 1) a0) := by
 intro a0 k
 obtain ⟨ih0, ih1, ih2⟩ := spec_l13Stmt.mono_all k
 exact ih1 a0
abbrev spec_l13Stmt.CallsAt (k : Nat) : Prop := ∀ (a0_0 : Int) (a0_1 : Int) (a0_2 : Int) (a0_3 : Int) (a0_4 : Int) (A0_5 : Option Addr) (c0_5 : Nat) (l0_5 : List (S56)) (A0_6 : Option Addr) (c0_6 : Nat) (l0_6 : List (S58)) (A0_7 : Option Addr) (c0_7 : Nat) (l0_7 : List (S58)) (r : List ByteArray) (w : World) (hr0_5 : Kd.C k56 w A0_5 l0_5.length l0_5) (hc0_5 : l0_5.length ≤ c0_5) (hr0_6 : Kd.C k58 w A0_6 l0_6.length l0_6) (hc0_6 : l0_6.length ≤ c0_6) (hr0_7 : Kd.C k58 w A0_7 l0_7.length l0_7) (hc0_7 : l0_7.length ≤ c0_7) (h : spec_l13Stmt.f k a0_0 a0_1 a0_2 a0_3 a0_4 l0_5 l0_6 l0_7 = some r),
  Calls Tryz.prog 49 #[.agg #[.int .i64 a0_0, .int .i64 a0_1, .int .i64 a0_2, .int .i64 a0_3, .int .i64 a0_4, .slice A0_5 l0_5.length c0_5, .slice A0_6 l0_6.length c0_6, .slice A0_7 l0_7.length c0_7]] w fun e w' => ∃ v0_ : Value, e = .returned (v0_) ∧ Kd.R Kd.string 9 w' w.heap.size (fun _ => True) v0_ r ∧ Below w.heap.size w w'
abbrev spec_l13Block.CallsAt (k : Nat) : Prop := ∀ (A0 : Option Addr) (c0 : Nat) (l0 : List (S58)) (r : List ByteArray) (w : World) (hr0 : Kd.C k58 w A0 l0.length l0) (hc0 : l0.length ≤ c0) (h : spec_l13Block.f k l0 = some r),
  Calls Tryz.prog 25 #[.slice A0 l0.length c0] w fun e w' => ∃ v0_ : Value, e = .returned (v0_) ∧ Kd.R Kd.string 9 w' w.heap.size (fun _ => True) v0_ r ∧ Below w.heap.size w w'
def spec_l13Stmt.T3 : Bool × List (List Nat × List Nat) := (true, [([], []), ([0], [0]), ([1], [1]), ([2], [2]), ([], []), ([4], [4]), ([3, 5, 2], [3, 5]), ([6, 6, 0, 1, 2, 3, 4, 5, 6], [6])])
def spec_l13Stmt.B3 : List Nat := [0, 1, 3, 7, 0, 16, 63, 127]
theorem spec_l13Stmt.tab3 : rtab .any (opsOf Tryz.f49 3) = spec_l13Stmt.T3 := by kernel_rfl
theorem spec_l13Stmt.bits3 : waitsOk spec_l13Stmt.T3.2 spec_l13Stmt.B3 = true := by kernel_rfl
def spec_l13Stmt.T5 : Bool × List (List Nat × List Nat) := (true, [([], []), ([0], [0]), ([1], [1]), ([2], [2]), ([], []), ([4], [4]), ([3, 5, 2], [3, 5]), ([6, 6, 0, 1, 2, 3, 4, 5, 6], [6])])
def spec_l13Stmt.B5 : List Nat := [0, 1, 3, 7, 0, 16, 63, 127]
theorem spec_l13Stmt.tab5 : rtab .any (opsOf Tryz.f49 5) = spec_l13Stmt.T5 := by kernel_rfl
theorem spec_l13Stmt.bits5 : waitsOk spec_l13Stmt.T5.2 spec_l13Stmt.B5 = true := by kernel_rfl
def spec_l13Stmt.T9 : Bool × List (List Nat × List Nat) := (true, [([], []), ([0], [0]), ([1], [1]), ([], []), ([3], [3]), ([4, 2], [4]), ([2, 5], [2, 5]), ([6, 5, 0, 1, 2, 3, 4, 5, 6], [6])])
def spec_l13Stmt.B9 : List Nat := [0, 1, 3, 0, 8, 31, 63, 127]
theorem spec_l13Stmt.tab9 : rtab .any (opsOf Tryz.f49 9) = spec_l13Stmt.T9 := by kernel_rfl
theorem spec_l13Stmt.bits9 : waitsOk spec_l13Stmt.T9.2 spec_l13Stmt.B9 = true := by kernel_rfl
theorem spec_l13Stmt.step (k : Nat) (ih_spec_l13Stmt : ∀ m, m < k → spec_l13Stmt.CallsAt m) (ih_spec_l13Block : ∀ m, m < k → spec_l13Block.CallsAt m) : spec_l13Stmt.CallsAt k := by
 intro a0_0 a0_1 a0_2 a0_3 a0_4 A0_5 c0_5 l0_5 A0_6 c0_6 l0_6 A0_7 c0_7 l0_7 r w hr0_5 hc0_5 hr0_6 hc0_6 hr0_7 hc0_7 h
 cases k with
 | zero => exact absurd h (by simp [spec_l13Stmt.f])
 | succ k =>
 simp only [spec_l13Stmt.f] at h
 have hu58 := Tryz.underlying58
 have hu56 := Tryz.underlying56
 have HR0_5 := am hr0_5
 have HC0_5 := am hc0_5
 clear hr0_5 hc0_5
 have HR0_6 := am hr0_6
 have HC0_6 := am hc0_6
 clear hr0_6 hc0_6
 have HR0_7 := am hr0_7
 have HC0_7 := am hc0_7
 clear hr0_7 hc0_7
 have HB := am (Below.refl w.heap.size w)
 have H : (if a0_0 = 1 then ((spec_l5Name.f a0_1).bind fun t26 => ((spec_l13Line.f k (([t26, (⟨#[61]⟩ : ByteArray)] : List ByteArray)) a0_3 a0_4 l0_5).bind fun t44 => (some t44))) else (if a0_0 = 4 then ((spec_l6Dec.f k a0_2).bind fun t54 => ((spec_l13Line.f k (([(⟨#[115, 101, 110, 100]⟩ : ByteArray), t54] : List ByteArray)) a0_3 a0_4 l0_5).bind fun t86 => (some t86))) else (if a0_0 = 7 then ((spec_l13Line.f k (([(⟨#[112, 114, 105, 110, 116]⟩ : ByteArray)] : List ByteArray)) a0_3 a0_4 l0_5).bind fun t87 => (some t87)) else (if a0_0 = 5 then ((spec_l6Dec.f k a0_2).bind fun t106 => ((spec_l5Name.f a0_1).bind fun t107 => (some (([(⟨#[114, 101, 99, 118]⟩ : ByteArray), t106, t107, (⟨#[59]⟩ : ByteArray)] : List ByteArray))))) else (if a0_0 = 6 then (some (([(⟨#[121, 105, 101, 108, 100]⟩ : ByteArray), (⟨#[59]⟩ : ByteArray)] : List ByteArray))) else (if a0_0 = 3 then ((some (([(⟨#[119, 104, 105, 108, 101]⟩ : ByteArray)] : List ByteArray) : List ByteArray)).bind fun y109 => ((spec_l5Tokens.f k a0_3 a0_4 l0_5).bind fun t111 => (if y109.length + t111.length < 8796093022208 then ((some (y109 ++ t111 : List ByteArray)).bind fun y113 => ((spec_l13Block.f k l0_6).bind fun t117 => (if y113.length + t117.length < 8796093022208 then (some (y113 ++ t117)) else (none)))) else (none)))) else ((some (([(⟨#[105, 102]⟩ : ByteArray)] : List ByteArray) : List ByteArray)).bind fun y120 => ((spec_l5Tokens.f k a0_3 a0_4 l0_5).bind fun t122 => (if y120.length + t122.length < 8796093022208 then ((some (y120 ++ t122 : List ByteArray)).bind fun y123 => ((spec_l13Block.f k l0_6).bind fun t124 => (if y123.length + t124.length < 8796093022208 then ((some (y123 ++ t124 : List ByteArray)).bind fun y125 => (if (l0_7.length : Int) = 0 then (some y125) else (if y125.length < 8796093022208 then ((some (y125 ++ [(⟨#[101, 108, 115, 101]⟩ : ByteArray)] : List ByteArray)).bind fun y126 => ((spec_l13Block.f k l0_7).bind fun t128 => (if y126.length + t128.length < 8796093022208 then (some (y126 ++ t128)) else (none)))) else (none)))) else (none)))) else (none)))))))))) = some r := h
 clear h
 have HH_ := am H
 clear H
 go_enter Tryz.func49, Tryz.ntmps49
 go_upto_region 1 with (first | ((with_reducible refine gate_dst (N := 1) rfl ?_); refine box_event rfl (N := 1) rfl (cs := #[.int .i64 a0_0, .int .i64 a0_1, .int .i64 a0_2, .int .i64 a0_3, .int .i64 a0_4, .slice A0_5 l0_5.length c0_5, .slice A0_6 l0_6.length c0_6, .slice A0_7 l0_7.length c0_7]) (t := 58) rn_ ?_; intro gb129 hg w5 hbox hb; have BK129 := am (hbox); have GW129 := am ((by rw [hg]; exact (below_size ab2_) : w.heap.size ≤ gb129)); have GE129 := am ((by rw [hg]; exact (below_size ab2_) : w.heap.size ≤ gb129)); replace HB := am (below_step ab2_ hb); clear hb hbox hg; obtain ⟨hcz6_0, hcz6_1, hcz6_2, hcz6_3, hcz6_4, hcz6_5, hcz6_6, hcz6_7, hfz6_0, hfz6_1, hfz6_2, hfz6_3, hfz6_4, hfz6_5, hfz6_6, hfz6_7⟩ := bcf8_ BK129.out))
 have H := HH_.out
 clear HH_
 by_cases c2 : a0_0 = 1
 ·rw [if_pos c2] at H
  have c2b0 : (a0_0 == 1) = true := beq_iff_eq.mpr c2
  have c2b1 : (a0_0 != 1) = false := bne_eq_false_iff_eq.mpr c2
  clear c2
  obtain ⟨t26, A3, H⟩ := bsa H
  (try dsimp only at H)
  obtain ⟨y130, hy_⟩ : ∃ y_ : List ByteArray, y_ = (([t26, (⟨#[61]⟩ : ByteArray)] : List ByteArray)) := ⟨_, rfl⟩
  replace H : ((spec_l13Line.f k y130 a0_3 a0_4 l0_5).bind fun t44 => (some t44)) = some r := rx_
  have Ny130 := am hy_
  clear hy_
  obtain ⟨t44, A4, H⟩ := bsa H
  (try dsimp only at H)
  obtain rfl := Option.some.inj H
  try go_wp2
  replace BK129 := am (blk_drew BK129.out)
  replace HB := am (below_drew1 HB.out)
  refine start_ (n := 8) (S := fun w' => w'.cell? ⟨gb129, 0, none⟩ = some (.int .i64 a0_0) ∧ w'.cell? ⟨gb129, 1, none⟩ = some (.int .i64 a0_1) ∧ w'.cell? ⟨gb129, 2, none⟩ = some (.int .i64 a0_2) ∧ w'.cell? ⟨gb129, 3, none⟩ = some (.int .i64 a0_3) ∧ w'.cell? ⟨gb129, 4, none⟩ = some (.int .i64 a0_4) ∧ w'.cell? ⟨gb129, 5, none⟩ = some (.slice A0_5 l0_5.length c0_5) ∧ w'.cell? ⟨gb129, 6, none⟩ = some (.slice A0_6 l0_6.length c0_6) ∧ w'.cell? ⟨gb129, 7, none⟩ = some (.slice A0_7 l0_7.length c0_7)) (ds := []) (bz 8 0) (by kernel_rfl) rfl rfl ⟨(blk_cell BK129.out 0).trans rfl, (blk_cell BK129.out 1).trans rfl, (blk_cell BK129.out 2).trans rfl, (blk_cell BK129.out 3).trans rfl, (blk_cell BK129.out 4).trans rfl, (blk_cell BK129.out 5).trans rfl, (blk_cell BK129.out 6).trans rfl, (blk_cell BK129.out 7).trans rfl⟩ (fun hHeld => ?_); refine with_tabW spec_l13Stmt.tab3 spec_l13Stmt.bits3 (fun HT_ HW_ => ?_)
  generalize w5.drew = w7 at BK129 HB hHeld ⊢
  refine pr_ 0 9 (bz 8 1) HT_ ?_
  refine pr_ 4 13 (bz 8 17) HT_ ?_
  refine tk8_ 1 10 (bz 8 19) HT_ HW_ hHeld ?_
  refine tk8_ 5 14 (bz 8 51) HT_ HW_ hHeld ?_
  refine one_ (i := 2) (N := some 11) (bz 8 55) rfl rfl (one_of HT_.out (by kernel_rfl)) (by decide) (fun K hK => ?_)
  refine goes_ Tryz.func73 (by kernel_rfl) rfl #[.int .i64 a0_1] (by rfl) rfl rfl ab1_ ?_
  with_reducible refine (spec_l5Name.calls a0_1 t26 _ A3.out).mono ?_
  rintro e w8 ⟨rfl, hb⟩
  refine ⟨_, rfl, ?_⟩
  replace BK129 := am (bbl_ BK129.out hb)
  replace HB := am (below_step ab8_ hb)
  (try clear hb)
  (try clear hb2)
  (try clear hk)
  (try clear hi)
  refine hK.out _ _ ⟨(blk_cell BK129.out 0).trans rfl, (blk_cell BK129.out 1).trans rfl, (blk_cell BK129.out 2).trans rfl, (blk_cell BK129.out 3).trans rfl, (blk_cell BK129.out 4).trans rfl, (blk_cell BK129.out 5).trans rfl, (blk_cell BK129.out 6).trans rfl, (blk_cell BK129.out 7).trans rfl⟩ (fun hHeld => ?_)
  clear hK K
  refine norm_ (a' := ?_) ?_ ?_
  rotate_left
  ·show Act.put _ (some 11) _ = _
   simp only [Act.put, List.setIfInBounds_toArray, List.set_cons_zero, List.set_cons_succ, i64_w, i32_w]
   rfl
  refine one_ (i := 3) (N := some 12) (bz 8 63) rfl rfl (one_of HT_.out (by kernel_rfl)) (by decide) (fun K hK => ?_)
  refine Kd.R_lit_step Kd.string _ 9 rfl (N := 12) rfl (xs := ([t26, (⟨#[61]⟩ : ByteArray)] : List ByteArray)) (inner := [.string t26, .string (⟨#[61]⟩ : ByteArray)]) (ok := fun _ => True) (okp := fun _ => True) rn_ ?hp (fun _ hk => hk) trivial (Below.refl _ _) (Nat.le_refl _) (by simp) ?_; (case hp => exact (Reps.one (show Kd.M Kd.string _ _ _ t26 [.string t26] from rfl) (Reps.one (show Kd.M Kd.string _ _ _ (⟨#[61]⟩ : ByteArray) [.string (⟨#[61]⟩ : ByteArray)] from rfl) (Reps.none _ _))))
  intro v131 w9 ho10 hb hg_ hnew_
  clear hg_ hnew_
  (first | rw [← Ny130.out] at ho10 | (simp only [Int.reduceToNat] at ho10; rw [← Ny130.out] at ho10))
  have HO132 := am (Kd.R_lower ho10 (below_size ab8_))
  replace BK129 := am (bbl_ BK129.out hb)
  replace HB := am (below_step ab8_ hb)
  clear hb ho10
  obtain ⟨Ao11, co11, eo11⟩ := Kd.R_slice HO132.out
  (first | subst eo11 | (injection eo11 with f1_ f2_ f3_; have f4_ := f1_.symm; have f5_ := f3_.symm; clear f1_ f2_ f3_; subst f4_; subst f5_))
  refine hK.out _ _ ⟨(blk_cell BK129.out 0).trans rfl, (blk_cell BK129.out 1).trans rfl, (blk_cell BK129.out 2).trans rfl, (blk_cell BK129.out 3).trans rfl, (blk_cell BK129.out 4).trans rfl, (blk_cell BK129.out 5).trans rfl, (blk_cell BK129.out 6).trans rfl, (blk_cell BK129.out 7).trans rfl⟩ (fun hHeld => ?_)
  clear hK K
  refine norm_ (a' := ?_) ?_ ?_
  rotate_left
  ·show Act.put _ (some 12) _ = _
   simp only [Act.put, List.setIfInBounds_toArray, List.set_cons_zero, List.set_cons_succ, i64_w, i32_w]
   rfl
  refine one_ (i := 6) (N := some 15) (bz 8 127) rfl rfl (one_of HT_.out (by kernel_rfl)) (by decide) (fun K hK => ?_)
  refine goes_ Tryz.func72 (by kernel_rfl) rfl #[.slice Ao11 y130.length co11, .agg #[.int .i64 a0_3, .int .i64 a0_4, .slice A0_5 l0_5.length c0_5]] (by rfl) rfl rfl ab1_ ?_
  with_reducible refine (spec_l13Line.calls k (fun k_ => some k_ = (.slice Ao11 y130.length co11 : Value).ownBlock) (.slice Ao11 y130.length co11) y130 a0_3 a0_4 _ _ l0_5 t44 w _ ?side1 ?side2 ?side3 HC0_5.out A4.out).mono ?_
  (case side1 => exact ab8_)
  (case side2 => exact Kd.R_tight rfl HO132.out)
  (case side3 => exact Kd.C_kept_came k56_heap HR0_5.out ab8_ (fun k_ hs_ => (fun e_ => Kd.R_base HO132.out k_ e_.symm) hs_))
  rintro e w12 ⟨v133, rfl, ho0, hb, hkp⟩
  refine ⟨_, rfl, ?_⟩
  replace BK129 := am (blk_kept (aG_ BK129.out) hkp (fun hs_ => (fun e_ => (Kd.R_ne HO132.out BK129.out (by decide)) e_) hs_))
  have HO134 := am (Kd.R_mono (ok' := fun k_ => True) ho0 (fun k_ hk_ => trivial))
  replace HB := am (hb)
  clear HO132
  (try clear hb)
  (try clear hkp)
  (try clear ho0)
  refine hK.out _ _ ⟨(blk_cell BK129.out 0).trans rfl, (blk_cell BK129.out 1).trans rfl, (blk_cell BK129.out 2).trans rfl, (blk_cell BK129.out 3).trans rfl, (blk_cell BK129.out 4).trans rfl, (blk_cell BK129.out 5).trans rfl, (blk_cell BK129.out 6).trans rfl, (blk_cell BK129.out 7).trans rfl⟩ (fun hHeld => ?_)
  clear hK K
  refine norm_ (a' := ?_) ?_ ?_
  rotate_left
  ·show Act.put _ (some 15) _ = _
   simp only [Act.put, List.setIfInBounds_toArray, List.set_cons_zero, List.set_cons_succ, i64_w, i32_w]
   rfl
  refine pr_ 7 2 (bz 8 255) HT_ ?_
  refine done_ (done_of HT_.out (by kernel_rfl)) ?_
  try go_wp2
  go_ret
  exact ⟨_, ab13_, aRw_ HO134.out, ab8_⟩
 rw [if_neg c2] at H
 have c2b0 : (a0_0 == 1) = false := beq_eq_false_iff_ne.mpr c2
 have c2b1 : (a0_0 != 1) = true := bne_iff_ne.mpr c2
 by_cases c13 : a0_0 = 4
 ·rw [if_pos c13] at H
  have c13b0 : (a0_0 == 4) = true := beq_iff_eq.mpr c13
  have c13b1 : (a0_0 != 4) = false := bne_eq_false_iff_eq.mpr c13
  clear c13
  obtain ⟨t54, A135, H⟩ := bsm H
  (try dsimp only at H)
  have A14 := am A135
  clear A135
  obtain ⟨y136, hy_⟩ : ∃ y_ : List ByteArray, y_ = (([(⟨#[115, 101, 110, 100]⟩ : ByteArray), t54] : List ByteArray)) := ⟨_, rfl⟩
  replace H : ((spec_l13Line.f k y136 a0_3 a0_4 l0_5).bind fun t86 => (some t86)) = some r := rx_
  have Ny136 := am hy_
  clear hy_
  obtain ⟨t86, A137, H⟩ := bsm H
  (try dsimp only at H)
  have A15 := am A137
  clear A137
  obtain rfl := Option.some.inj H
  try go_wp2
  replace BK129 := am (blk_drew BK129.out)
  replace HB := am (below_drew1 HB.out)
  refine start_ (n := 8) (S := fun w' => w'.cell? ⟨gb129, 0, none⟩ = some (.int .i64 a0_0) ∧ w'.cell? ⟨gb129, 1, none⟩ = some (.int .i64 a0_1) ∧ w'.cell? ⟨gb129, 2, none⟩ = some (.int .i64 a0_2) ∧ w'.cell? ⟨gb129, 3, none⟩ = some (.int .i64 a0_3) ∧ w'.cell? ⟨gb129, 4, none⟩ = some (.int .i64 a0_4) ∧ w'.cell? ⟨gb129, 5, none⟩ = some (.slice A0_5 l0_5.length c0_5) ∧ w'.cell? ⟨gb129, 6, none⟩ = some (.slice A0_6 l0_6.length c0_6) ∧ w'.cell? ⟨gb129, 7, none⟩ = some (.slice A0_7 l0_7.length c0_7)) (ds := []) (bz 8 0) (by kernel_rfl) rfl rfl ⟨(blk_cell BK129.out 0).trans rfl, (blk_cell BK129.out 1).trans rfl, (blk_cell BK129.out 2).trans rfl, (blk_cell BK129.out 3).trans rfl, (blk_cell BK129.out 4).trans rfl, (blk_cell BK129.out 5).trans rfl, (blk_cell BK129.out 6).trans rfl, (blk_cell BK129.out 7).trans rfl⟩ (fun hHeld => ?_); refine with_tabW spec_l13Stmt.tab5 spec_l13Stmt.bits5 (fun HT_ HW_ => ?_)
  generalize w5.drew = w18 at BK129 HB hHeld ⊢
  refine pr_ 0 18 (bz 8 1) HT_ ?_
  refine pr_ 4 22 (bz 8 17) HT_ ?_
  refine tk8_ 1 19 (bz 8 19) HT_ HW_ hHeld ?_
  refine tk8_ 5 23 (bz 8 51) HT_ HW_ hHeld ?_
  refine one_ (i := 2) (N := some 20) (bz 8 55) rfl rfl (one_of HT_.out (by kernel_rfl)) (by decide) (fun K hK => ?_)
  refine goes_ Tryz.func24 (by kernel_rfl) rfl #[.int .i64 a0_2] (by rfl) rfl rfl ab1_ ?_
  with_reducible refine (spec_l6Dec.calls k a0_2 t54 _ A14.out).mono ?_
  rintro e w19 ⟨rfl, hb⟩
  refine ⟨_, rfl, ?_⟩
  replace BK129 := am (bbl_ BK129.out hb)
  replace HB := am (below_step ab8_ hb)
  (try clear hb)
  (try clear hb2)
  (try clear hk)
  (try clear hi)
  refine hK.out _ _ ⟨(blk_cell BK129.out 0).trans rfl, (blk_cell BK129.out 1).trans rfl, (blk_cell BK129.out 2).trans rfl, (blk_cell BK129.out 3).trans rfl, (blk_cell BK129.out 4).trans rfl, (blk_cell BK129.out 5).trans rfl, (blk_cell BK129.out 6).trans rfl, (blk_cell BK129.out 7).trans rfl⟩ (fun hHeld => ?_)
  clear hK K
  refine norm_ (a' := ?_) ?_ ?_
  rotate_left
  ·show Act.put _ (some 20) _ = _
   simp only [Act.put, List.setIfInBounds_toArray, List.set_cons_zero, List.set_cons_succ, i64_w, i32_w]
   rfl
  refine one_ (i := 3) (N := some 21) (bz 8 63) rfl rfl (one_of HT_.out (by kernel_rfl)) (by decide) (fun K hK => ?_)
  refine Kd.R_lit_step Kd.string _ 9 rfl (N := 21) rfl (xs := ([(⟨#[115, 101, 110, 100]⟩ : ByteArray), t54] : List ByteArray)) (inner := [.string (⟨#[115, 101, 110, 100]⟩ : ByteArray), .string t54]) (ok := fun _ => True) (okp := fun _ => True) rn_ ?hp (fun _ hk => hk) trivial (Below.refl _ _) (Nat.le_refl _) (by simp) ?_; (case hp => exact (Reps.one (show Kd.M Kd.string _ _ _ (⟨#[115, 101, 110, 100]⟩ : ByteArray) [.string (⟨#[115, 101, 110, 100]⟩ : ByteArray)] from rfl) (Reps.one (show Kd.M Kd.string _ _ _ t54 [.string t54] from rfl) (Reps.none _ _))))
  intro v138 w20 ho21 hb hg_ hnew_
  clear hg_ hnew_
  (first | rw [← Ny136.out] at ho21 | (simp only [Int.reduceToNat] at ho21; rw [← Ny136.out] at ho21))
  have HO139 := am (Kd.R_lower ho21 (below_size ab8_))
  replace BK129 := am (bbl_ BK129.out hb)
  replace HB := am (below_step ab8_ hb)
  clear hb ho21
  obtain ⟨Ao22, co22, eo22⟩ := Kd.R_slice HO139.out
  (first | subst eo22 | (injection eo22 with f1_ f2_ f3_; have f4_ := f1_.symm; have f5_ := f3_.symm; clear f1_ f2_ f3_; subst f4_; subst f5_))
  refine hK.out _ _ ⟨(blk_cell BK129.out 0).trans rfl, (blk_cell BK129.out 1).trans rfl, (blk_cell BK129.out 2).trans rfl, (blk_cell BK129.out 3).trans rfl, (blk_cell BK129.out 4).trans rfl, (blk_cell BK129.out 5).trans rfl, (blk_cell BK129.out 6).trans rfl, (blk_cell BK129.out 7).trans rfl⟩ (fun hHeld => ?_)
  clear hK K
  refine norm_ (a' := ?_) ?_ ?_
  rotate_left
  ·show Act.put _ (some 21) _ = _
   simp only [Act.put, List.setIfInBounds_toArray, List.set_cons_zero, List.set_cons_succ, i64_w, i32_w]
   rfl
  refine one_ (i := 6) (N := some 24) (bz 8 127) rfl rfl (one_of HT_.out (by kernel_rfl)) (by decide) (fun K hK => ?_)
  refine goes_ Tryz.func72 (by kernel_rfl) rfl #[.slice Ao22 y136.length co22, .agg #[.int .i64 a0_3, .int .i64 a0_4, .slice A0_5 l0_5.length c0_5]] (by rfl) rfl rfl ab1_ ?_
  with_reducible refine (spec_l13Line.calls k (fun k_ => some k_ = (.slice Ao22 y136.length co22 : Value).ownBlock) (.slice Ao22 y136.length co22) y136 a0_3 a0_4 _ _ l0_5 t86 w _ ?side1 ?side2 ?side3 HC0_5.out A15.out).mono ?_
  (case side1 => exact ab8_)
  (case side2 => exact Kd.R_tight rfl HO139.out)
  (case side3 => exact Kd.C_kept_came k56_heap HR0_5.out ab8_ (fun k_ hs_ => (fun e_ => Kd.R_base HO139.out k_ e_.symm) hs_))
  rintro e w23 ⟨v141, rfl, ho0, hb, hkp⟩
  refine ⟨_, rfl, ?_⟩
  replace BK129 := am (blk_kept (aG_ BK129.out) hkp (fun hs_ => (fun e_ => (Kd.R_ne HO139.out BK129.out (by decide)) e_) hs_))
  have HO142 := am (Kd.R_mono (ok' := fun k_ => True) ho0 (fun k_ hk_ => trivial))
  replace HB := am (hb)
  clear HO139
  (try clear hb)
  (try clear hkp)
  (try clear ho0)
  refine hK.out _ _ ⟨(blk_cell BK129.out 0).trans rfl, (blk_cell BK129.out 1).trans rfl, (blk_cell BK129.out 2).trans rfl, (blk_cell BK129.out 3).trans rfl, (blk_cell BK129.out 4).trans rfl, (blk_cell BK129.out 5).trans rfl, (blk_cell BK129.out 6).trans rfl, (blk_cell BK129.out 7).trans rfl⟩ (fun hHeld => ?_)
  clear hK K
  refine norm_ (a' := ?_) ?_ ?_
  rotate_left
  ·show Act.put _ (some 24) _ = _
   simp only [Act.put, List.setIfInBounds_toArray, List.set_cons_zero, List.set_cons_succ, i64_w, i32_w]
   rfl
  refine pr_ 7 2 (bz 8 255) HT_ ?_
  refine done_ (done_of HT_.out (by kernel_rfl)) ?_
  try go_wp2
  go_ret
  exact ⟨_, ab13_, aRw_ HO142.out, ab8_⟩
 rw [if_neg c13] at H
 have c13b0 : (a0_0 == 4) = false := beq_eq_false_iff_ne.mpr c13
 have c13b1 : (a0_0 != 4) = true := bne_iff_ne.mpr c13
 by_cases c24 : a0_0 = 7
 ·rw [if_pos c24] at H
  have c24b0 : (a0_0 == 7) = true := beq_iff_eq.mpr c24
  have c24b1 : (a0_0 != 7) = false := bne_eq_false_iff_eq.mpr c24
  clear c24
  obtain ⟨y143, hy_⟩ : ∃ y_ : List ByteArray, y_ = (([(⟨#[112, 114, 105, 110, 116]⟩ : ByteArray)] : List ByteArray)) := ⟨_, rfl⟩
  replace H : ((spec_l13Line.f k y143 a0_3 a0_4 l0_5).bind fun t87 => (some t87)) = some r := rx_
  have Ny143 := am hy_
  clear hy_
  obtain ⟨t87, A144, H⟩ := bsm H
  (try dsimp only at H)
  have A25 := am A144
  clear A144
  obtain rfl := Option.some.inj H
  go_wp2_with (first | ((with_reducible refine gate_dst (N := 27) rfl ?_); refine Kd.R_lit Kd.string _ 9 rfl (N := 27) rfl (xs := ([(⟨#[112, 114, 105, 110, 116]⟩ : ByteArray)] : List ByteArray)) (inner := [.string (⟨#[112, 114, 105, 110, 116]⟩ : ByteArray)]) (ok := fun _ => True) (okp := fun _ => True) rn_ ?hp (fun _ hk => hk) trivial (Below.refl _ _) (Nat.le_refl _) (by simp) ?_; (case hp => exact (Reps.one (show Kd.M Kd.string _ _ _ (⟨#[112, 114, 105, 110, 116]⟩ : ByteArray) [.string (⟨#[112, 114, 105, 110, 116]⟩ : ByteArray)] from rfl) (Reps.none _ _))); intro v145 w28 ho29 hb hg_ hnew_; clear hg_ hnew_; (first | rw [← Ny143.out] at ho29 | (simp only [Int.reduceToNat] at ho29; rw [← Ny143.out] at ho29)); have HO146 := am (Kd.R_lower ho29 (below_size ab8_)); replace BK129 := am (bbl_ BK129.out hb); replace HB := am (below_step ab8_ hb); clear hb ho29; obtain ⟨hcz30_0, hcz30_1, hcz30_2, hcz30_3, hcz30_4, hcz30_5, hcz30_6, hcz30_7, hfz30_0, hfz30_1, hfz30_2, hfz30_3, hfz30_4, hfz30_5, hfz30_6, hfz30_7⟩ := bcf8_ BK129.out; obtain ⟨Ao31, co31, eo31⟩ := Kd.R_slice HO146.out; subst eo31) | ((with_reducible refine gate_callee (f := 72) rfl ?_); refine gl_ 30 Tryz.func72 #[.slice Ao31 y143.length co31, .agg #[.int .i64 a0_3, .int .i64 a0_4, .slice A0_5 l0_5.length c0_5]] ?_; (with_reducible refine (spec_l13Line.calls k (fun k_ => some k_ = (.slice Ao31 y143.length co31 : Value).ownBlock) (.slice Ao31 y143.length co31) y143 a0_3 a0_4 _ _ l0_5 t87 w _ ?side1 ?side2 ?side3 HC0_5.out A25.out).mono ?_); (case side1 => exact ab8_); (case side2 => exact Kd.R_tight rfl HO146.out); (case side3 => exact Kd.C_kept_came k56_heap HR0_5.out ab8_ (fun k_ hs_ => (fun e_ => Kd.R_base HO146.out k_ e_.symm) hs_)); rintro e w32 ⟨v147, rfl, ho0, hb, hkp⟩; refine ⟨_, rfl, ?_⟩; replace BK129 := am (blk_kept (aG_ BK129.out) hkp (fun hs_ => (fun e_ => (Kd.R_ne HO146.out BK129.out (by decide)) e_) hs_)); have HO148 := am (Kd.R_mono (ok' := fun k_ => True) ho0 (fun k_ hk_ => trivial)); replace HB := am (hb); clear HO146; (try clear hb); (try clear hkp); (try clear ho0)))
  go_ret
  exact ⟨_, ab13_, aRw_ HO148.out, ab8_⟩
 rw [if_neg c24] at H
 have c24b0 : (a0_0 == 7) = false := beq_eq_false_iff_ne.mpr c24
 have c24b1 : (a0_0 != 7) = true := bne_iff_ne.mpr c24
 by_cases c33 : a0_0 = 5
 ·rw [if_pos c33] at H
  have c33b0 : (a0_0 == 5) = true := beq_iff_eq.mpr c33
  have c33b1 : (a0_0 != 5) = false := bne_eq_false_iff_eq.mpr c33
  clear c33
  obtain ⟨t106, A149, H⟩ := bsm H
  (try dsimp only at H)
  have A34 := am A149
  clear A149
  obtain ⟨t107, A151, H⟩ := bsm H
  (try dsimp only at H)
  have A35 := am A151
  clear A151
  obtain ⟨y152, hy_⟩ : ∃ y_ : List ByteArray, y_ = (([(⟨#[114, 101, 99, 118]⟩ : ByteArray), t106, t107, (⟨#[59]⟩ : ByteArray)] : List ByteArray)) := ⟨_, rfl⟩
  replace H : (some y152) = some r := rx_
  have Ny152 := am hy_
  clear hy_
  obtain rfl := Option.some.inj H
  try go_wp2
  replace BK129 := am (blk_drew BK129.out)
  replace HB := am (below_drew1 HB.out)
  refine start_ (n := 8) (S := fun w' => w'.cell? ⟨gb129, 0, none⟩ = some (.int .i64 a0_0) ∧ w'.cell? ⟨gb129, 1, none⟩ = some (.int .i64 a0_1) ∧ w'.cell? ⟨gb129, 2, none⟩ = some (.int .i64 a0_2) ∧ w'.cell? ⟨gb129, 3, none⟩ = some (.int .i64 a0_3) ∧ w'.cell? ⟨gb129, 4, none⟩ = some (.int .i64 a0_4) ∧ w'.cell? ⟨gb129, 5, none⟩ = some (.slice A0_5 l0_5.length c0_5) ∧ w'.cell? ⟨gb129, 6, none⟩ = some (.slice A0_6 l0_6.length c0_6) ∧ w'.cell? ⟨gb129, 7, none⟩ = some (.slice A0_7 l0_7.length c0_7)) (ds := []) (bz 8 0) (by kernel_rfl) rfl rfl ⟨(blk_cell BK129.out 0).trans rfl, (blk_cell BK129.out 1).trans rfl, (blk_cell BK129.out 2).trans rfl, (blk_cell BK129.out 3).trans rfl, (blk_cell BK129.out 4).trans rfl, (blk_cell BK129.out 5).trans rfl, (blk_cell BK129.out 6).trans rfl, (blk_cell BK129.out 7).trans rfl⟩ (fun hHeld => ?_); refine with_tabW spec_l13Stmt.tab9 spec_l13Stmt.bits9 (fun HT_ HW_ => ?_)
  generalize w5.drew = w38 at BK129 HB hHeld ⊢
  refine pr_ 0 33 (bz 8 1) HT_ ?_
  refine pr_ 3 36 (bz 8 9) HT_ ?_
  refine tk8_ 1 34 (bz 8 11) HT_ HW_ hHeld ?_
  refine tk8_ 4 37 (bz 8 27) HT_ HW_ hHeld ?_
  refine one_ (i := 2) (N := some 35) (bz 8 31) rfl rfl (one_of HT_.out (by kernel_rfl)) (by decide) (fun K hK => ?_)
  refine goes_ Tryz.func24 (by kernel_rfl) rfl #[.int .i64 a0_2] (by rfl) rfl rfl ab1_ ?_
  with_reducible refine (spec_l6Dec.calls k a0_2 t106 _ A34.out).mono ?_
  rintro e w39 ⟨rfl, hb⟩
  refine ⟨_, rfl, ?_⟩
  replace BK129 := am (bbl_ BK129.out hb)
  replace HB := am (below_step ab8_ hb)
  (try clear hb)
  (try clear hb2)
  (try clear hk)
  (try clear hi)
  refine hK.out _ _ ⟨(blk_cell BK129.out 0).trans rfl, (blk_cell BK129.out 1).trans rfl, (blk_cell BK129.out 2).trans rfl, (blk_cell BK129.out 3).trans rfl, (blk_cell BK129.out 4).trans rfl, (blk_cell BK129.out 5).trans rfl, (blk_cell BK129.out 6).trans rfl, (blk_cell BK129.out 7).trans rfl⟩ (fun hHeld => ?_)
  clear hK K
  refine norm_ (a' := ?_) ?_ ?_
  rotate_left
  ·show Act.put _ (some 35) _ = _
   simp only [Act.put, List.setIfInBounds_toArray, List.set_cons_zero, List.set_cons_succ, i64_w, i32_w]
   rfl
  refine one_ (i := 5) (N := some 38) (bz 8 63) rfl rfl (one_of HT_.out (by kernel_rfl)) (by decide) (fun K hK => ?_)
  refine goes_ Tryz.func73 (by kernel_rfl) rfl #[.int .i64 a0_1] (by rfl) rfl rfl ab1_ ?_
  with_reducible refine (spec_l5Name.calls a0_1 t107 _ A35.out).mono ?_
  rintro e w40 ⟨rfl, hb⟩
  refine ⟨_, rfl, ?_⟩
  replace BK129 := am (bbl_ BK129.out hb)
  replace HB := am (below_step ab8_ hb)
  (try clear hb)
  (try clear hb2)
  (try clear hk)
  (try clear hi)
  refine hK.out _ _ ⟨(blk_cell BK129.out 0).trans rfl, (blk_cell BK129.out 1).trans rfl, (blk_cell BK129.out 2).trans rfl, (blk_cell BK129.out 3).trans rfl, (blk_cell BK129.out 4).trans rfl, (blk_cell BK129.out 5).trans rfl, (blk_cell BK129.out 6).trans rfl, (blk_cell BK129.out 7).trans rfl⟩ (fun hHeld => ?_)
  clear hK K
  refine norm_ (a' := ?_) ?_ ?_
  rotate_left
  ·show Act.put _ (some 38) _ = _
   simp only [Act.put, List.setIfInBounds_toArray, List.set_cons_zero, List.set_cons_succ, i64_w, i32_w]
   rfl
  refine one_ (i := 6) (N := some 39) (bz 8 127) rfl rfl (one_of HT_.out (by kernel_rfl)) (by decide) (fun K hK => ?_)
  refine Kd.R_lit_step Kd.string _ 9 rfl (N := 39) rfl (xs := ([(⟨#[114, 101, 99, 118]⟩ : ByteArray), t106, t107, (⟨#[59]⟩ : ByteArray)] : List ByteArray)) (inner := [.string (⟨#[114, 101, 99, 118]⟩ : ByteArray), .string t106, .string t107, .string (⟨#[59]⟩ : ByteArray)]) (ok := fun _ => True) (okp := fun _ => True) rn_ ?hp (fun _ hk => hk) trivial (Below.refl _ _) (Nat.le_refl _) (by simp) ?_; (case hp => exact (Reps.one (show Kd.M Kd.string _ _ _ (⟨#[114, 101, 99, 118]⟩ : ByteArray) [.string (⟨#[114, 101, 99, 118]⟩ : ByteArray)] from rfl) (Reps.one (show Kd.M Kd.string _ _ _ t106 [.string t106] from rfl) (Reps.one (show Kd.M Kd.string _ _ _ t107 [.string t107] from rfl) (Reps.one (show Kd.M Kd.string _ _ _ (⟨#[59]⟩ : ByteArray) [.string (⟨#[59]⟩ : ByteArray)] from rfl) (Reps.none _ _))))))
  intro v153 w41 ho42 hb hg_ hnew_
  clear hg_ hnew_
  (first | rw [← Ny152.out] at ho42 | (simp only [Int.reduceToNat] at ho42; rw [← Ny152.out] at ho42))
  have HO154 := am (Kd.R_lower ho42 (below_size ab8_))
  replace BK129 := am (bbl_ BK129.out hb)
  replace HB := am (below_step ab8_ hb)
  clear hb ho42
  refine hK.out _ _ ⟨(blk_cell BK129.out 0).trans rfl, (blk_cell BK129.out 1).trans rfl, (blk_cell BK129.out 2).trans rfl, (blk_cell BK129.out 3).trans rfl, (blk_cell BK129.out 4).trans rfl, (blk_cell BK129.out 5).trans rfl, (blk_cell BK129.out 6).trans rfl, (blk_cell BK129.out 7).trans rfl⟩ (fun hHeld => ?_)
  clear hK K
  refine norm_ (a' := ?_) ?_ ?_
  rotate_left
  ·show Act.put _ (some 39) _ = _
   simp only [Act.put, List.setIfInBounds_toArray, List.set_cons_zero, List.set_cons_succ, i64_w, i32_w]
   rfl
  refine pr_ 7 2 (bz 8 255) HT_ ?_
  refine done_ (done_of HT_.out (by kernel_rfl)) ?_
  try go_wp2
  go_ret
  exact ⟨_, ab13_, aRw_ HO154.out, ab8_⟩
 rw [if_neg c33] at H
 have c33b0 : (a0_0 == 5) = false := beq_eq_false_iff_ne.mpr c33
 have c33b1 : (a0_0 != 5) = true := bne_iff_ne.mpr c33
 by_cases c43 : a0_0 = 6
 ·rw [if_pos c43] at H
  have c43b0 : (a0_0 == 6) = true := beq_iff_eq.mpr c43
  have c43b1 : (a0_0 != 6) = false := bne_eq_false_iff_eq.mpr c43
  clear c43
  obtain ⟨y155, hy_⟩ : ∃ y_ : List ByteArray, y_ = (([(⟨#[121, 105, 101, 108, 100]⟩ : ByteArray), (⟨#[59]⟩ : ByteArray)] : List ByteArray)) := ⟨_, rfl⟩
  replace H : (some y155) = some r := rx_
  have Ny155 := am hy_
  clear hy_
  obtain rfl := Option.some.inj H
  go_wp2_with (first | ((with_reducible refine gate_dst (N := 42) rfl ?_); refine Kd.R_lit Kd.string _ 9 rfl (N := 42) rfl (xs := ([(⟨#[121, 105, 101, 108, 100]⟩ : ByteArray), (⟨#[59]⟩ : ByteArray)] : List ByteArray)) (inner := [.string (⟨#[121, 105, 101, 108, 100]⟩ : ByteArray), .string (⟨#[59]⟩ : ByteArray)]) (ok := fun _ => True) (okp := fun _ => True) rn_ ?hp (fun _ hk => hk) trivial (Below.refl _ _) (Nat.le_refl _) (by simp) ?_; (case hp => exact (Reps.one (show Kd.M Kd.string _ _ _ (⟨#[121, 105, 101, 108, 100]⟩ : ByteArray) [.string (⟨#[121, 105, 101, 108, 100]⟩ : ByteArray)] from rfl) (Reps.one (show Kd.M Kd.string _ _ _ (⟨#[59]⟩ : ByteArray) [.string (⟨#[59]⟩ : ByteArray)] from rfl) (Reps.none _ _)))); intro v156 w46 ho47 hb hg_ hnew_; clear hg_ hnew_; (first | rw [← Ny155.out] at ho47 | (simp only [Int.reduceToNat] at ho47; rw [← Ny155.out] at ho47)); have HO157 := am (Kd.R_lower ho47 (below_size ab8_)); replace BK129 := am (bbl_ BK129.out hb); replace HB := am (below_step ab8_ hb); clear hb ho47))
  go_ret
  exact ⟨_, ab13_, aRw_ HO157.out, ab8_⟩
 rw [if_neg c43] at H
 have c43b0 : (a0_0 == 6) = false := beq_eq_false_iff_ne.mpr c43
 have c43b1 : (a0_0 != 6) = true := bne_iff_ne.mpr c43
 by_cases c48 : a0_0 = 3
 ·rw [if_pos c48] at H
  have c48b0 : (a0_0 == 3) = true := beq_iff_eq.mpr c48
  have c48b1 : (a0_0 != 3) = false := bne_eq_false_iff_eq.mpr c48
  clear c48
  obtain ⟨y109, hy_⟩ : ∃ y_ : List ByteArray, y_ = (([(⟨#[119, 104, 105, 108, 101]⟩ : ByteArray)] : List ByteArray)) := ⟨_, rfl⟩
  replace H : ((spec_l5Tokens.f k a0_3 a0_4 l0_5).bind fun t111 => (if y109.length + t111.length < 8796093022208 then ((some (y109 ++ t111 : List ByteArray)).bind fun y113 => ((spec_l13Block.f k l0_6).bind fun t117 => (if y113.length + t117.length < 8796093022208 then (some (y113 ++ t117)) else (none)))) else (none))) = some r := rx_
  have Ny109 := am hy_
  clear hy_
  obtain ⟨t111, A158, H⟩ := bsm H
  (try dsimp only at H)
  have A49 := am A158
  clear A158
  by_cases c50 : y109.length + t111.length < 8796093022208
  ·rw [if_pos c50] at H
   have LMc50 := am c50
   clear c50
   obtain ⟨y113, hy_⟩ : ∃ y_ : List ByteArray, y_ = (y109 ++ t111) := ⟨_, rfl⟩
   replace H : ((spec_l13Block.f k l0_6).bind fun t117 => (if y113.length + t117.length < 8796093022208 then (some (y113 ++ t117)) else (none))) = some r := rx_
   have Ny113 := am hy_
   clear hy_
   obtain ⟨t117, A159, H⟩ := bsm H
   (try dsimp only at H)
   have A51 := am A159
   clear A159
   by_cases c52 : y113.length + t117.length < 8796093022208
   ·rw [if_pos c52] at H
    have LMc52 := am c52
    clear c52
    obtain ⟨y160, hy_⟩ : ∃ y_ : List ByteArray, y_ = (y113 ++ t117) := ⟨_, rfl⟩
    replace H : (some y160) = some r := rx_
    have Ny160 := am hy_
    clear hy_
    obtain rfl := Option.some.inj H
    go_wp2_with (first | ((with_reducible refine gate_dst (N := 45) rfl ?_); refine Kd.R_lit Kd.string _ 9 rfl (N := 45) rfl (xs := ([(⟨#[119, 104, 105, 108, 101]⟩ : ByteArray)] : List ByteArray)) (inner := [.string (⟨#[119, 104, 105, 108, 101]⟩ : ByteArray)]) (ok := fun _ => True) (okp := fun _ => True) rn_ ?hp (fun _ hk => hk) trivial (Below.refl _ _) (Nat.le_refl _) (by simp) ?_; (case hp => exact (Reps.one (show Kd.M Kd.string _ _ _ (⟨#[119, 104, 105, 108, 101]⟩ : ByteArray) [.string (⟨#[119, 104, 105, 108, 101]⟩ : ByteArray)] from rfl) (Reps.none _ _))); intro v161 w55 ho56 hb hg_ hnew_; clear hg_ hnew_; (first | rw [← Ny109.out] at ho56 | (simp only [Int.reduceToNat] at ho56; rw [← Ny109.out] at ho56)); have HO162 := am (Kd.R_lower ho56 (below_size ab8_)); replace BK129 := am (bbl_ BK129.out hb); replace HB := am (below_step ab8_ hb); clear hb ho56; obtain ⟨hcz57_0, hcz57_1, hcz57_2, hcz57_3, hcz57_4, hcz57_5, hcz57_6, hcz57_7, hfz57_0, hfz57_1, hfz57_2, hfz57_3, hfz57_4, hfz57_5, hfz57_6, hfz57_7⟩ := bcf8_ BK129.out) | ((with_reducible refine gate_callee (f := 74) rfl ?_); refine gl_ 48 Tryz.func74 #[.agg #[.int .i64 a0_3, .int .i64 a0_4, .slice A0_5 l0_5.length c0_5]] ?_; (with_reducible refine (spec_l5Tokens.calls k a0_3 a0_4 _ _ l0_5 t111 _ (aC_ (Kd.C_below HR0_5.out HB.out)) HC0_5.out A49.out).mono ?_); rintro e w58 ⟨v163, rfl, ho0, hb⟩; refine ⟨_, rfl, ?_⟩; have HO164 := am (Kd.R_lower (Kd.R_new' ho0 (Kd.R_lt (aR_ HO162.out))) (below_size ab8_)); replace HO162 := am (Kd.R_elder' (aR_ HO162.out) (Kd.R_base ho0) hb); replace BK129 := am (bbl_ BK129.out hb); replace HB := am (below_step ab8_ hb); (try clear hb); (try clear ho0); obtain ⟨Ao60, co60, eo60⟩ := Kd.R_slice HO164.out; subst eo60) | ((with_reducible refine gate_builtin (b := .append) (xs := #[.tmp 45, .tmp 48]) rfl ?_); at_builtin; refine Kd.R_append_rows Kd.string (w0 := w) w.heap.size rfl (.tmp 45) (.tmp 48) 29 9 (.string ⟨#[]⟩) 16 rfl Tryz.underlying29 info9 rfl (by decide) (by omega) v161 y109 t111 _ _ _ (fun k_ => some k_ ≠ (.slice Ao60 t111.length co60 : Value).ownBlock) (fun _ => False) rfl rfl ?aO ?aR (fun _ _ h => h) (fun _ h => h.elim) ?aF ?aB ?aS ?aL ?_; (case aR => repeat (first | exact (Kd.R_reads' HO164.out).2.2 | (with_reducible refine Kd.C_alloc ?_ _) | (with_reducible refine Kd.C_drewN ?_ _) | (with_reducible refine Kd.C_drew ?_))); (case aB => exact ab8_); (case aF => exact (fun k_ hk => Kd.fresh' (Kd.R_lt (aR_ HO164.out)) k_ hk)); (case aO => exact (aRw_ (Kd.R_mono HO162.out (fun _ hk => hk.2)))); (case aS => exact (below_size ab8_)); (case aL => have := LMc50.out; omega); intro v165 w59 ho hb hg hat; rw [← Ny113.out] at ho; replace BK129 := am (blk_grown (g := gb129) (o := .cells #[.int .i64 a0_0, .int .i64 a0_1, .int .i64 a0_2, .int .i64 a0_3, .int .i64 a0_4, .slice A0_5 l0_5.length c0_5, .slice A0_6 l0_6.length c0_6, .slice A0_7 l0_7.length c0_7] 58 (0, 0)) (aG_ BK129.out) hg (Kd.R_ne HO162.out BK129.out (by decide))); replace HO164 := am (Kd.R_after (ok := (fun _ => True)) (aR_ HO164.out) hg hat); replace HB := am (hb); have HO166 := am (ho); clear HO162 ho hb hg hat; obtain ⟨hcz61_0, hcz61_1, hcz61_2, hcz61_3, hcz61_4, hcz61_5, hcz61_6, hcz61_7, hfz61_0, hfz61_1, hfz61_2, hfz61_3, hfz61_4, hfz61_5, hfz61_6, hfz61_7⟩ := bcf8_ BK129.out) | ((with_reducible refine gate_callee (f := 25) rfl ?_); refine gl_ 53 Tryz.func25 #[.slice A0_6 l0_6.length c0_6] ?_; (with_reducible refine (ih_spec_l13Block k (by omega) _ _ l0_6 t117 _ (aC_ (Kd.C_below HR0_6.out HB.out)) HC0_6.out A51.out).mono ?_); rintro e w62 ⟨v167, rfl, ho0, hb⟩; refine ⟨_, rfl, ?_⟩; have HO168 := am (Kd.R_lower (Kd.R_new' (Kd.R_new' ho0 (Kd.R_lt (aR_ HO164.out))) (Kd.R_lt (aR_ HO166.out))) (below_size ab8_)); replace HO164 := am (Kd.R_elder' (aR_ HO164.out) (Kd.R_base ho0) hb); replace HO166 := am (Kd.R_elder' (aR_ HO166.out) (Kd.R_base ho0) hb); replace BK129 := am (bbl_ BK129.out hb); replace HB := am (below_step ab8_ hb); (try clear hb); (try clear ho0); obtain ⟨Ao64, co64, eo64⟩ := Kd.R_slice HO168.out; subst eo64) | ((with_reducible refine gate_builtin (b := .append) (xs := #[.tmp 50, .tmp 53]) rfl ?_); at_builtin; refine Kd.R_append_rows Kd.string (w0 := w) w.heap.size rfl (.tmp 50) (.tmp 53) 29 9 (.string ⟨#[]⟩) 16 rfl Tryz.underlying29 info9 rfl (by decide) (by omega) v165 y113 t117 _ _ _ (fun k_ => some k_ ≠ (.slice Ao60 t111.length co60 : Value).ownBlock ∧ some k_ ≠ (.slice Ao64 t117.length co64 : Value).ownBlock) (fun _ => False) rfl rfl ?aO ?aR (fun _ _ h => h) (fun _ h => h.elim) ?aF ?aB ?aS ?aL ?_; (case aR => repeat (first | exact (Kd.R_reads' HO168.out).2.2 | (with_reducible refine Kd.C_alloc ?_ _) | (with_reducible refine Kd.C_drewN ?_ _) | (with_reducible refine Kd.C_drew ?_))); (case aB => exact ab8_); (case aF => exact (fun k_ hk => ⟨Kd.fresh' (Kd.R_lt (aR_ HO164.out)) k_ hk, Kd.fresh' (Kd.R_lt (aR_ HO168.out)) k_ hk⟩)); (case aO => exact (aR_ HO166.out)); (case aS => exact (below_size ab8_)); (case aL => have := LMc52.out; omega); intro v169 w63 ho hb hg hat; rw [← Ny160.out] at ho; replace BK129 := am (blk_grown (g := gb129) (o := .cells #[.int .i64 a0_0, .int .i64 a0_1, .int .i64 a0_2, .int .i64 a0_3, .int .i64 a0_4, .slice A0_5 l0_5.length c0_5, .slice A0_6 l0_6.length c0_6, .slice A0_7 l0_7.length c0_7] 58 (0, 0)) (aG_ BK129.out) hg (Kd.R_ne HO166.out BK129.out (by decide))); replace HO164 := am (Kd.R_after (ok := (fun k_ => some k_ ≠ (.slice Ao64 t117.length co64 : Value).ownBlock)) (aRw_ (Kd.R_mono HO164.out (fun _ hk => ⟨hk.2, hk.1.2⟩))) hg hat); replace HO168 := am (Kd.R_after (ok := (fun k_ => some k_ ≠ (.slice Ao60 t111.length co60 : Value).ownBlock)) (aRw_ (Kd.R_mono HO168.out (fun _ hk => ⟨hk.1.2, hk.2⟩))) hg hat); replace HB := am (hb); have HO170 := am (ho); clear HO166 ho hb hg hat))
    go_ret
    exact ⟨_, ab13_, aRw_ (Kd.R_mono HO170.out (fun _ hk => trivial)), ab8_⟩
   rw [if_neg c52] at H
   exact absurd H (by simp)
  rw [if_neg c50] at H
  exact absurd H (by simp)
 rw [if_neg c48] at H
 have c48b0 : (a0_0 == 3) = false := beq_eq_false_iff_ne.mpr c48
 have c48b1 : (a0_0 != 3) = true := bne_iff_ne.mpr c48
 obtain ⟨y120, hy_⟩ : ∃ y_ : List ByteArray, y_ = (([(⟨#[105, 102]⟩ : ByteArray)] : List ByteArray)) := ⟨_, rfl⟩
 replace H : ((spec_l5Tokens.f k a0_3 a0_4 l0_5).bind fun t122 => (if y120.length + t122.length < 8796093022208 then ((some (y120 ++ t122 : List ByteArray)).bind fun y123 => ((spec_l13Block.f k l0_6).bind fun t124 => (if y123.length + t124.length < 8796093022208 then ((some (y123 ++ t124 : List ByteArray)).bind fun y125 => (if (l0_7.length : Int) = 0 then (some y125) else (if y125.length < 8796093022208 then ((some (y125 ++ [(⟨#[101, 108, 115, 101]⟩ : ByteArray)] : List ByteArray)).bind fun y126 => ((spec_l13Block.f k l0_7).bind fun t128 => (if y126.length + t128.length < 8796093022208 then (some (y126 ++ t128)) else (none)))) else (none)))) else (none)))) else (none))) = some r := rx_
 have Ny120 := am hy_
 clear hy_
 obtain ⟨t122, A171, H⟩ := bsm H
 (try dsimp only at H)
 have A65 := am A171
 clear A171
 by_cases c66 : y120.length + t122.length < 8796093022208
 ·rw [if_pos c66] at H
  have LMc66 := am c66
  clear c66
  obtain ⟨y123, hy_⟩ : ∃ y_ : List ByteArray, y_ = (y120 ++ t122) := ⟨_, rfl⟩
  replace H : ((spec_l13Block.f k l0_6).bind fun t124 => (if y123.length + t124.length < 8796093022208 then ((some (y123 ++ t124 : List ByteArray)).bind fun y125 => (if (l0_7.length : Int) = 0 then (some y125) else (if y125.length < 8796093022208 then ((some (y125 ++ [(⟨#[101, 108, 115, 101]⟩ : ByteArray)] : List ByteArray)).bind fun y126 => ((spec_l13Block.f k l0_7).bind fun t128 => (if y126.length + t128.length < 8796093022208 then (some (y126 ++ t128)) else (none)))) else (none)))) else (none))) = some r := rx_
  have Ny123 := am hy_
  clear hy_
  obtain ⟨t124, A172, H⟩ := bsm H
  (try dsimp only at H)
  have A67 := am A172
  clear A172
  by_cases c68 : y123.length + t124.length < 8796093022208
  ·rw [if_pos c68] at H
   have LMc68 := am c68
   clear c68
   obtain ⟨y125, hy_⟩ : ∃ y_ : List ByteArray, y_ = (y123 ++ t124) := ⟨_, rfl⟩
   replace H : (if (l0_7.length : Int) = 0 then (some y125) else (if y125.length < 8796093022208 then ((some (y125 ++ [(⟨#[101, 108, 115, 101]⟩ : ByteArray)] : List ByteArray)).bind fun y126 => ((spec_l13Block.f k l0_7).bind fun t128 => (if y126.length + t128.length < 8796093022208 then (some (y126 ++ t128)) else (none)))) else (none))) = some r := rx_
   have Ny125 := am hy_
   clear hy_
   by_cases c69 : (l0_7.length : Int) = 0
   ·rw [if_pos c69] at H
    have c69b0 : ((l0_7.length : Int) == 0) = true := beq_iff_eq.mpr c69
    have c69b1 : ((l0_7.length : Int) != 0) = false := bne_eq_false_iff_eq.mpr c69
    clear c69
    obtain rfl := Option.some.inj H
    go_wp2_with (first | ((with_reducible refine gate_dst (N := 55) rfl ?_); refine Kd.R_lit Kd.string _ 9 rfl (N := 55) rfl (xs := ([(⟨#[105, 102]⟩ : ByteArray)] : List ByteArray)) (inner := [.string (⟨#[105, 102]⟩ : ByteArray)]) (ok := fun _ => True) (okp := fun _ => True) rn_ ?hp (fun _ hk => hk) trivial (Below.refl _ _) (Nat.le_refl _) (by simp) ?_; (case hp => exact (Reps.one (show Kd.M Kd.string _ _ _ (⟨#[105, 102]⟩ : ByteArray) [.string (⟨#[105, 102]⟩ : ByteArray)] from rfl) (Reps.none _ _))); intro v173 w72 ho73 hb hg_ hnew_; clear hg_ hnew_; (first | rw [← Ny120.out] at ho73 | (simp only [Int.reduceToNat] at ho73; rw [← Ny120.out] at ho73)); have HO174 := am (Kd.R_lower ho73 (below_size ab8_)); replace BK129 := am (bbl_ BK129.out hb); replace HB := am (below_step ab8_ hb); clear hb ho73; obtain ⟨hcz74_0, hcz74_1, hcz74_2, hcz74_3, hcz74_4, hcz74_5, hcz74_6, hcz74_7, hfz74_0, hfz74_1, hfz74_2, hfz74_3, hfz74_4, hfz74_5, hfz74_6, hfz74_7⟩ := bcf8_ BK129.out) | ((with_reducible refine gate_callee (f := 74) rfl ?_); refine gl_ 58 Tryz.func74 #[.agg #[.int .i64 a0_3, .int .i64 a0_4, .slice A0_5 l0_5.length c0_5]] ?_; (with_reducible refine (spec_l5Tokens.calls k a0_3 a0_4 _ _ l0_5 t122 _ (aC_ (Kd.C_below HR0_5.out HB.out)) HC0_5.out A65.out).mono ?_); rintro e w75 ⟨v175, rfl, ho0, hb⟩; refine ⟨_, rfl, ?_⟩; have HO176 := am (Kd.R_lower (Kd.R_new' ho0 (Kd.R_lt (aR_ HO174.out))) (below_size ab8_)); replace HO174 := am (Kd.R_elder' (aR_ HO174.out) (Kd.R_base ho0) hb); replace BK129 := am (bbl_ BK129.out hb); replace HB := am (below_step ab8_ hb); (try clear hb); (try clear ho0); obtain ⟨Ao77, co77, eo77⟩ := Kd.R_slice HO176.out; subst eo77) | ((with_reducible refine gate_builtin (b := .append) (xs := #[.tmp 55, .tmp 58]) rfl ?_); at_builtin; refine Kd.R_append_rows Kd.string (w0 := w) w.heap.size rfl (.tmp 55) (.tmp 58) 29 9 (.string ⟨#[]⟩) 16 rfl Tryz.underlying29 info9 rfl (by decide) (by omega) v173 y120 t122 _ _ _ (fun k_ => some k_ ≠ (.slice Ao77 t122.length co77 : Value).ownBlock) (fun _ => False) rfl rfl ?aO ?aR (fun _ _ h => h) (fun _ h => h.elim) ?aF ?aB ?aS ?aL ?_; (case aR => repeat (first | exact (Kd.R_reads' HO176.out).2.2 | (with_reducible refine Kd.C_alloc ?_ _) | (with_reducible refine Kd.C_drewN ?_ _) | (with_reducible refine Kd.C_drew ?_))); (case aB => exact ab8_); (case aF => exact (fun k_ hk => Kd.fresh' (Kd.R_lt (aR_ HO176.out)) k_ hk)); (case aO => exact (aRw_ (Kd.R_mono HO174.out (fun _ hk => hk.2)))); (case aS => exact (below_size ab8_)); (case aL => have := LMc66.out; omega); intro v177 w76 ho hb hg hat; rw [← Ny123.out] at ho; replace BK129 := am (blk_grown (g := gb129) (o := .cells #[.int .i64 a0_0, .int .i64 a0_1, .int .i64 a0_2, .int .i64 a0_3, .int .i64 a0_4, .slice A0_5 l0_5.length c0_5, .slice A0_6 l0_6.length c0_6, .slice A0_7 l0_7.length c0_7] 58 (0, 0)) (aG_ BK129.out) hg (Kd.R_ne HO174.out BK129.out (by decide))); replace HO176 := am (Kd.R_after (ok := (fun _ => True)) (aR_ HO176.out) hg hat); replace HB := am (hb); have HO178 := am (ho); clear HO174 ho hb hg hat; obtain ⟨hcz78_0, hcz78_1, hcz78_2, hcz78_3, hcz78_4, hcz78_5, hcz78_6, hcz78_7, hfz78_0, hfz78_1, hfz78_2, hfz78_3, hfz78_4, hfz78_5, hfz78_6, hfz78_7⟩ := bcf8_ BK129.out) | ((with_reducible refine gate_callee (f := 25) rfl ?_); refine gl_ 63 Tryz.func25 #[.slice A0_6 l0_6.length c0_6] ?_; (with_reducible refine (ih_spec_l13Block k (by omega) _ _ l0_6 t124 _ (aC_ (Kd.C_below HR0_6.out HB.out)) HC0_6.out A67.out).mono ?_); rintro e w79 ⟨v179, rfl, ho0, hb⟩; refine ⟨_, rfl, ?_⟩; have HO180 := am (Kd.R_lower (Kd.R_new' (Kd.R_new' ho0 (Kd.R_lt (aR_ HO176.out))) (Kd.R_lt (aR_ HO178.out))) (below_size ab8_)); replace HO176 := am (Kd.R_elder' (aR_ HO176.out) (Kd.R_base ho0) hb); replace HO178 := am (Kd.R_elder' (aR_ HO178.out) (Kd.R_base ho0) hb); replace BK129 := am (bbl_ BK129.out hb); replace HB := am (below_step ab8_ hb); (try clear hb); (try clear ho0); obtain ⟨Ao81, co81, eo81⟩ := Kd.R_slice HO180.out; subst eo81) | ((with_reducible refine gate_builtin (b := .append) (xs := #[.tmp 60, .tmp 63]) rfl ?_); at_builtin; refine Kd.R_append_rows Kd.string (w0 := w) w.heap.size rfl (.tmp 60) (.tmp 63) 29 9 (.string ⟨#[]⟩) 16 rfl Tryz.underlying29 info9 rfl (by decide) (by omega) v177 y123 t124 _ _ _ (fun k_ => some k_ ≠ (.slice Ao77 t122.length co77 : Value).ownBlock ∧ some k_ ≠ (.slice Ao81 t124.length co81 : Value).ownBlock) (fun _ => False) rfl rfl ?aO ?aR (fun _ _ h => h) (fun _ h => h.elim) ?aF ?aB ?aS ?aL ?_; (case aR => repeat (first | exact (Kd.R_reads' HO180.out).2.2 | (with_reducible refine Kd.C_alloc ?_ _) | (with_reducible refine Kd.C_drewN ?_ _) | (with_reducible refine Kd.C_drew ?_))); (case aB => exact ab8_); (case aF => exact (fun k_ hk => ⟨Kd.fresh' (Kd.R_lt (aR_ HO176.out)) k_ hk, Kd.fresh' (Kd.R_lt (aR_ HO180.out)) k_ hk⟩)); (case aO => exact (aR_ HO178.out)); (case aS => exact (below_size ab8_)); (case aL => have := LMc68.out; omega); intro v181 w80 ho hb hg hat; rw [← Ny125.out] at ho; replace BK129 := am (blk_grown (g := gb129) (o := .cells #[.int .i64 a0_0, .int .i64 a0_1, .int .i64 a0_2, .int .i64 a0_3, .int .i64 a0_4, .slice A0_5 l0_5.length c0_5, .slice A0_6 l0_6.length c0_6, .slice A0_7 l0_7.length c0_7] 58 (0, 0)) (aG_ BK129.out) hg (Kd.R_ne HO178.out BK129.out (by decide))); replace HO176 := am (Kd.R_after (ok := (fun k_ => some k_ ≠ (.slice Ao81 t124.length co81 : Value).ownBlock)) (aRw_ (Kd.R_mono HO176.out (fun _ hk => ⟨hk.2, hk.1.2⟩))) hg hat); replace HO180 := am (Kd.R_after (ok := (fun k_ => some k_ ≠ (.slice Ao77 t122.length co77 : Value).ownBlock)) (aRw_ (Kd.R_mono HO180.out (fun _ hk => ⟨hk.1.2, hk.2⟩))) hg hat); replace HB := am (hb); have HO182 := am (ho); clear HO178 ho hb hg hat; obtain ⟨hcz82_0, hcz82_1, hcz82_2, hcz82_3, hcz82_4, hcz82_5, hcz82_6, hcz82_7, hfz82_0, hfz82_1, hfz82_2, hfz82_3, hfz82_4, hfz82_5, hfz82_6, hfz82_7⟩ := bcf8_ BK129.out))
    go_ret
    exact ⟨_, ab13_, aRw_ (Kd.R_mono HO182.out (fun _ hk => trivial)), ab8_⟩
   rw [if_neg c69] at H
   have c69b0 : ((l0_7.length : Int) == 0) = false := beq_eq_false_iff_ne.mpr c69
   have c69b1 : ((l0_7.length : Int) != 0) = true := bne_iff_ne.mpr c69
   have c69b2 : ¬ (l0_7 = []) := fun h_ => c69 (by rw [h_]; rfl)
   by_cases c83 : y125.length < 8796093022208
   ·rw [if_pos c83] at H
    have LMc83 := am c83
    clear c83
    obtain ⟨y126, hy_⟩ : ∃ y_ : List ByteArray, y_ = (y125 ++ [(⟨#[101, 108, 115, 101]⟩ : ByteArray)]) := ⟨_, rfl⟩
    replace H : ((spec_l13Block.f k l0_7).bind fun t128 => (if y126.length + t128.length < 8796093022208 then (some (y126 ++ t128)) else (none))) = some r := rx_
    have Ny126 := am hy_
    clear hy_
    obtain ⟨t128, A183, H⟩ := bsm H
    (try dsimp only at H)
    have A84 := am A183
    clear A183
    by_cases c85 : y126.length + t128.length < 8796093022208
    ·rw [if_pos c85] at H
     have LMc85 := am c85
     clear c85
     obtain ⟨y184, hy_⟩ : ∃ y_ : List ByteArray, y_ = (y126 ++ t128) := ⟨_, rfl⟩
     replace H : (some y184) = some r := rx_
     have Ny184 := am hy_
     clear hy_
     obtain rfl := Option.some.inj H
     go_wp2_with (first | ((with_reducible refine gate_dst (N := 55) rfl ?_); refine Kd.R_lit Kd.string _ 9 rfl (N := 55) rfl (xs := ([(⟨#[105, 102]⟩ : ByteArray)] : List ByteArray)) (inner := [.string (⟨#[105, 102]⟩ : ByteArray)]) (ok := fun _ => True) (okp := fun _ => True) rn_ ?hp (fun _ hk => hk) trivial (Below.refl _ _) (Nat.le_refl _) (by simp) ?_; (case hp => exact (Reps.one (show Kd.M Kd.string _ _ _ (⟨#[105, 102]⟩ : ByteArray) [.string (⟨#[105, 102]⟩ : ByteArray)] from rfl) (Reps.none _ _))); intro v173 w88 ho89 hb hg_ hnew_; clear hg_ hnew_; (first | rw [← Ny120.out] at ho89 | (simp only [Int.reduceToNat] at ho89; rw [← Ny120.out] at ho89)); have HO174 := am (Kd.R_lower ho89 (below_size ab8_)); replace BK129 := am (bbl_ BK129.out hb); replace HB := am (below_step ab8_ hb); clear hb ho89; obtain ⟨hcz90_0, hcz90_1, hcz90_2, hcz90_3, hcz90_4, hcz90_5, hcz90_6, hcz90_7, hfz90_0, hfz90_1, hfz90_2, hfz90_3, hfz90_4, hfz90_5, hfz90_6, hfz90_7⟩ := bcf8_ BK129.out) | ((with_reducible refine gate_callee (f := 74) rfl ?_); refine gl_ 58 Tryz.func74 #[.agg #[.int .i64 a0_3, .int .i64 a0_4, .slice A0_5 l0_5.length c0_5]] ?_; (with_reducible refine (spec_l5Tokens.calls k a0_3 a0_4 _ _ l0_5 t122 _ (aC_ (Kd.C_below HR0_5.out HB.out)) HC0_5.out A65.out).mono ?_); rintro e w91 ⟨v175, rfl, ho0, hb⟩; refine ⟨_, rfl, ?_⟩; have HO176 := am (Kd.R_lower (Kd.R_new' ho0 (Kd.R_lt (aR_ HO174.out))) (below_size ab8_)); replace HO174 := am (Kd.R_elder' (aR_ HO174.out) (Kd.R_base ho0) hb); replace BK129 := am (bbl_ BK129.out hb); replace HB := am (below_step ab8_ hb); (try clear hb); (try clear ho0); obtain ⟨Ao93, co93, eo93⟩ := Kd.R_slice HO176.out; subst eo93) | ((with_reducible refine gate_builtin (b := .append) (xs := #[.tmp 55, .tmp 58]) rfl ?_); at_builtin; refine Kd.R_append_rows Kd.string (w0 := w) w.heap.size rfl (.tmp 55) (.tmp 58) 29 9 (.string ⟨#[]⟩) 16 rfl Tryz.underlying29 info9 rfl (by decide) (by omega) v173 y120 t122 _ _ _ (fun k_ => some k_ ≠ (.slice Ao93 t122.length co93 : Value).ownBlock) (fun _ => False) rfl rfl ?aO ?aR (fun _ _ h => h) (fun _ h => h.elim) ?aF ?aB ?aS ?aL ?_; (case aR => repeat (first | exact (Kd.R_reads' HO176.out).2.2 | (with_reducible refine Kd.C_alloc ?_ _) | (with_reducible refine Kd.C_drewN ?_ _) | (with_reducible refine Kd.C_drew ?_))); (case aB => exact ab8_); (case aF => exact (fun k_ hk => Kd.fresh' (Kd.R_lt (aR_ HO176.out)) k_ hk)); (case aO => exact (aRw_ (Kd.R_mono HO174.out (fun _ hk => hk.2)))); (case aS => exact (below_size ab8_)); (case aL => have := LMc66.out; omega); intro v177 w92 ho hb hg hat; rw [← Ny123.out] at ho; replace BK129 := am (blk_grown (g := gb129) (o := .cells #[.int .i64 a0_0, .int .i64 a0_1, .int .i64 a0_2, .int .i64 a0_3, .int .i64 a0_4, .slice A0_5 l0_5.length c0_5, .slice A0_6 l0_6.length c0_6, .slice A0_7 l0_7.length c0_7] 58 (0, 0)) (aG_ BK129.out) hg (Kd.R_ne HO174.out BK129.out (by decide))); replace HO176 := am (Kd.R_after (ok := (fun _ => True)) (aR_ HO176.out) hg hat); replace HB := am (hb); have HO178 := am (ho); clear HO174 ho hb hg hat; obtain ⟨hcz94_0, hcz94_1, hcz94_2, hcz94_3, hcz94_4, hcz94_5, hcz94_6, hcz94_7, hfz94_0, hfz94_1, hfz94_2, hfz94_3, hfz94_4, hfz94_5, hfz94_6, hfz94_7⟩ := bcf8_ BK129.out) | ((with_reducible refine gate_callee (f := 25) rfl ?_); refine gl_ 63 Tryz.func25 #[.slice A0_6 l0_6.length c0_6] ?_; (with_reducible refine (ih_spec_l13Block k (by omega) _ _ l0_6 t124 _ (aC_ (Kd.C_below HR0_6.out HB.out)) HC0_6.out A67.out).mono ?_); rintro e w95 ⟨v179, rfl, ho0, hb⟩; refine ⟨_, rfl, ?_⟩; have HO180 := am (Kd.R_lower (Kd.R_new' (Kd.R_new' ho0 (Kd.R_lt (aR_ HO176.out))) (Kd.R_lt (aR_ HO178.out))) (below_size ab8_)); replace HO176 := am (Kd.R_elder' (aR_ HO176.out) (Kd.R_base ho0) hb); replace HO178 := am (Kd.R_elder' (aR_ HO178.out) (Kd.R_base ho0) hb); replace BK129 := am (bbl_ BK129.out hb); replace HB := am (below_step ab8_ hb); (try clear hb); (try clear ho0); obtain ⟨Ao97, co97, eo97⟩ := Kd.R_slice HO180.out; subst eo97) | ((with_reducible refine gate_builtin (b := .append) (xs := #[.tmp 60, .tmp 63]) rfl ?_); at_builtin; refine Kd.R_append_rows Kd.string (w0 := w) w.heap.size rfl (.tmp 60) (.tmp 63) 29 9 (.string ⟨#[]⟩) 16 rfl Tryz.underlying29 info9 rfl (by decide) (by omega) v177 y123 t124 _ _ _ (fun k_ => some k_ ≠ (.slice Ao93 t122.length co93 : Value).ownBlock ∧ some k_ ≠ (.slice Ao97 t124.length co97 : Value).ownBlock) (fun _ => False) rfl rfl ?aO ?aR (fun _ _ h => h) (fun _ h => h.elim) ?aF ?aB ?aS ?aL ?_; (case aR => repeat (first | exact (Kd.R_reads' HO180.out).2.2 | (with_reducible refine Kd.C_alloc ?_ _) | (with_reducible refine Kd.C_drewN ?_ _) | (with_reducible refine Kd.C_drew ?_))); (case aB => exact ab8_); (case aF => exact (fun k_ hk => ⟨Kd.fresh' (Kd.R_lt (aR_ HO176.out)) k_ hk, Kd.fresh' (Kd.R_lt (aR_ HO180.out)) k_ hk⟩)); (case aO => exact (aR_ HO178.out)); (case aS => exact (below_size ab8_)); (case aL => have := LMc68.out; omega); intro v181 w96 ho hb hg hat; rw [← Ny125.out] at ho; replace BK129 := am (blk_grown (g := gb129) (o := .cells #[.int .i64 a0_0, .int .i64 a0_1, .int .i64 a0_2, .int .i64 a0_3, .int .i64 a0_4, .slice A0_5 l0_5.length c0_5, .slice A0_6 l0_6.length c0_6, .slice A0_7 l0_7.length c0_7] 58 (0, 0)) (aG_ BK129.out) hg (Kd.R_ne HO178.out BK129.out (by decide))); replace HO176 := am (Kd.R_after (ok := (fun k_ => some k_ ≠ (.slice Ao97 t124.length co97 : Value).ownBlock)) (aRw_ (Kd.R_mono HO176.out (fun _ hk => ⟨hk.2, hk.1.2⟩))) hg hat); replace HO180 := am (Kd.R_after (ok := (fun k_ => some k_ ≠ (.slice Ao93 t122.length co93 : Value).ownBlock)) (aRw_ (Kd.R_mono HO180.out (fun _ hk => ⟨hk.1.2, hk.2⟩))) hg hat); replace HB := am (hb); have HO182 := am (ho); clear HO178 ho hb hg hat; obtain ⟨hcz98_0, hcz98_1, hcz98_2, hcz98_3, hcz98_4, hcz98_5, hcz98_6, hcz98_7, hfz98_0, hfz98_1, hfz98_2, hfz98_3, hfz98_4, hfz98_5, hfz98_6, hfz98_7⟩ := bcf8_ BK129.out) | ((with_reducible refine gate_builtin (b := .append) (xs := #[.tmp 70, .tmp 71]) rfl ?_); at_builtin; refine Kd.R_append Kd.string (w0 := w) w.heap.size rfl (.tmp 70) (.tmp 71) 29 9 (.string ⟨#[]⟩) 16 rfl Tryz.underlying29 info9 rfl (by decide) (by omega) v181 y125 (⟨#[101, 108, 115, 101]⟩ : ByteArray) [.string (⟨#[101, 108, 115, 101]⟩ : ByteArray)] (fun k_ => some k_ ≠ (.slice Ao93 t122.length co93 : Value).ownBlock ∧ some k_ ≠ (.slice Ao97 t124.length co97 : Value).ownBlock) (fun _ => False) rfl rfl ?aP (fun _ hk => hk.elim) ?aF ?aO ?aB ?aS ?aL ?_; (case aP => exact rfl); (case aB => exact ab8_); (case aF => exact (fun k_ hk => ⟨Kd.fresh' (Kd.R_lt (aR_ HO176.out)) k_ hk, Kd.fresh' (Kd.R_lt (aR_ HO180.out)) k_ hk⟩)); (case aO => exact (aR_ HO182.out)); (case aS => exact (below_size ab8_)); (case aL => have := LMc83.out; omega); intro v185 w99 ho hb hg hat; rw [← Ny126.out] at ho; replace BK129 := am (blk_grown (g := gb129) (o := .cells #[.int .i64 a0_0, .int .i64 a0_1, .int .i64 a0_2, .int .i64 a0_3, .int .i64 a0_4, .slice A0_5 l0_5.length c0_5, .slice A0_6 l0_6.length c0_6, .slice A0_7 l0_7.length c0_7] 58 (0, 0)) (aG_ BK129.out) hg (Kd.R_ne HO182.out BK129.out (by decide))); replace HO176 := am (Kd.R_after (ok := (fun k_ => some k_ ≠ (.slice Ao97 t124.length co97 : Value).ownBlock)) (aR_ HO176.out) hg hat); replace HO180 := am (Kd.R_after (ok := (fun k_ => some k_ ≠ (.slice Ao93 t122.length co93 : Value).ownBlock)) (aR_ HO180.out) hg hat); replace HB := am (hb); have HO186 := am (ho); clear HO182 ho hb hg hat; obtain ⟨hcz100_0, hcz100_1, hcz100_2, hcz100_3, hcz100_4, hcz100_5, hcz100_6, hcz100_7, hfz100_0, hfz100_1, hfz100_2, hfz100_3, hfz100_4, hfz100_5, hfz100_6, hfz100_7⟩ := bcf8_ BK129.out) | ((with_reducible refine gate_callee (f := 25) rfl ?_); refine gl_ 76 Tryz.func25 #[.slice A0_7 l0_7.length c0_7] ?_; (with_reducible refine (ih_spec_l13Block k (by omega) _ _ l0_7 t128 _ (aC_ (Kd.C_below HR0_7.out HB.out)) HC0_7.out A84.out).mono ?_); rintro e w101 ⟨v187, rfl, ho0, hb⟩; refine ⟨_, rfl, ?_⟩; have HO188 := am (Kd.R_lower (Kd.R_new' (Kd.R_new' (Kd.R_new' ho0 (Kd.R_lt (aR_ HO176.out))) (Kd.R_lt (aR_ HO180.out))) (Kd.R_lt (aR_ HO186.out))) (below_size ab8_)); replace HO176 := am (Kd.R_elder' (aR_ HO176.out) (Kd.R_base ho0) hb); replace HO180 := am (Kd.R_elder' (aR_ HO180.out) (Kd.R_base ho0) hb); replace HO186 := am (Kd.R_elder' (aR_ HO186.out) (Kd.R_base ho0) hb); replace BK129 := am (bbl_ BK129.out hb); replace HB := am (below_step ab8_ hb); (try clear hb); (try clear ho0); obtain ⟨Ao189, co189, eo189⟩ := Kd.R_slice HO188.out; subst eo189) | ((with_reducible refine gate_builtin (b := .append) (xs := #[.tmp 73, .tmp 76]) rfl ?_); at_builtin; refine Kd.R_append_rows Kd.string (w0 := w) w.heap.size rfl (.tmp 73) (.tmp 76) 29 9 (.string ⟨#[]⟩) 16 rfl Tryz.underlying29 info9 rfl (by decide) (by omega) v185 y126 t128 _ _ _ (fun k_ => some k_ ≠ (.slice Ao93 t122.length co93 : Value).ownBlock ∧ some k_ ≠ (.slice Ao97 t124.length co97 : Value).ownBlock ∧ some k_ ≠ (.slice Ao189 t128.length co189 : Value).ownBlock) (fun _ => False) rfl rfl ?aO ?aR (fun _ _ h => h) (fun _ h => h.elim) ?aF ?aB ?aS ?aL ?_; (case aR => repeat (first | exact (Kd.R_reads' HO188.out).2.2 | (with_reducible refine Kd.C_alloc ?_ _) | (with_reducible refine Kd.C_drewN ?_ _) | (with_reducible refine Kd.C_drew ?_))); (case aB => exact ab8_); (case aF => exact (fun k_ hk => ⟨Kd.fresh' (Kd.R_lt (aR_ HO176.out)) k_ hk, Kd.fresh' (Kd.R_lt (aR_ HO180.out)) k_ hk, Kd.fresh' (Kd.R_lt (aR_ HO188.out)) k_ hk⟩)); (case aO => exact (aRw_ (Kd.R_mono HO186.out (fun _ hk => ⟨hk.1.1, ⟨hk.1.2, hk.2⟩⟩)))); (case aS => exact (below_size ab8_)); (case aL => have := LMc85.out; omega); intro v190 w102 ho hb hg hat; rw [← Ny184.out] at ho; replace BK129 := am (blk_grown (g := gb129) (o := .cells #[.int .i64 a0_0, .int .i64 a0_1, .int .i64 a0_2, .int .i64 a0_3, .int .i64 a0_4, .slice A0_5 l0_5.length c0_5, .slice A0_6 l0_6.length c0_6, .slice A0_7 l0_7.length c0_7] 58 (0, 0)) (aG_ BK129.out) hg (Kd.R_ne HO186.out BK129.out (by decide))); replace HO176 := am (Kd.R_after (ok := (fun k_ => some k_ ≠ (.slice Ao97 t124.length co97 : Value).ownBlock ∧ some k_ ≠ (.slice Ao189 t128.length co189 : Value).ownBlock)) (aRw_ (Kd.R_mono HO176.out (fun _ hk => ⟨⟨hk.1.1, hk.2⟩, hk.1.2⟩))) hg hat); replace HO180 := am (Kd.R_after (ok := (fun k_ => some k_ ≠ (.slice Ao93 t122.length co93 : Value).ownBlock ∧ some k_ ≠ (.slice Ao189 t128.length co189 : Value).ownBlock)) (aRw_ (Kd.R_mono HO180.out (fun _ hk => ⟨⟨hk.1.1, hk.2⟩, hk.1.2⟩))) hg hat); replace HO188 := am (Kd.R_after (ok := (fun k_ => some k_ ≠ (.slice Ao93 t122.length co93 : Value).ownBlock ∧ some k_ ≠ (.slice Ao97 t124.length co97 : Value).ownBlock)) (aRw_ (Kd.R_mono HO188.out (fun _ hk => ⟨⟨hk.1.1.2, hk.1.2⟩, hk.2⟩))) hg hat); replace HB := am (hb); have HO191 := am (ho); clear HO186 ho hb hg hat))
     go_ret
     exact ⟨_, ab13_, aRw_ (Kd.R_mono HO191.out (fun _ hk => trivial)), ab8_⟩
    rw [if_neg c85] at H
    exact absurd H (by simp)
   rw [if_neg c83] at H
   exact absurd H (by simp)
  rw [if_neg c68] at H
  exact absurd H (by simp)
 rw [if_neg c66] at H
 exact absurd H (by simp)
theorem spec_l13Block.step (k : Nat) (ih_spec_l13Stmt : ∀ m, m < k → spec_l13Stmt.CallsAt m) (ih_spec_l13Block : ∀ m, m < k → spec_l13Block.CallsAt m) : spec_l13Block.CallsAt k := by
 intro A0 c0 l0 r w hr0 hc0 h
 cases k with
 | zero => exact absurd h (by simp [spec_l13Block.f])
 | succ k =>
 simp only [spec_l13Block.f] at h
 have hu58 := Tryz.underlying58
 have HR0 := am hr0
 have HC0 := am hc0
 clear hr0 hc0
 have HB := am (Below.refl w.heap.size w)
 have H : (spec_l13Block.l0 k l0 (([(⟨#[123]⟩ : ByteArray)] : List ByteArray)) 0) = some r := h
 clear h
 obtain ⟨y21, hy_⟩ : ∃ y_ : List ByteArray, y_ = (([(⟨#[123]⟩ : ByteArray)] : List ByteArray)) := ⟨_, rfl⟩
 replace H : (spec_l13Block.l0 k l0 y21 0) = some r := rx_
 have Ny21 := am hy_
 clear hy_
 have H' := am H
 clear H
 go_enter Tryz.func25, Tryz.ntmps25
 go_wp2_with (first | ((with_reducible refine gate_dst (N := 5) rfl ?_); refine Kd.R_lit Kd.string _ 9 rfl (N := 5) rfl (xs := ([(⟨#[123]⟩ : ByteArray)] : List ByteArray)) (inner := [.string (⟨#[123]⟩ : ByteArray)]) (ok := fun _ => True) (okp := fun _ => True) rn_ ?hp (fun _ hk => hk) trivial (Below.refl _ _) (Nat.le_refl _) (by simp) ?_; (case hp => exact (Reps.one (show Kd.M Kd.string _ _ _ (⟨#[123]⟩ : ByteArray) [.string (⟨#[123]⟩ : ByteArray)] from rfl) (Reps.none _ _))); intro v22 w2 ho3 hb hg_ hnew_; clear hg_ hnew_; (first | rw [← Ny21.out] at ho3 | (simp only [Int.reduceToNat] at ho3; rw [← Ny21.out] at ho3)); have HO23 := am (Kd.R_lower ho3 (below_size ab2_)); replace HB := am (below_step ab2_ hb); clear hb ho3))
 go_loopg [3, 4] k (fun kq v3 v4 w' => ∃ (x3_1 : List ByteArray) (x4_1 : Int), v4 = .int .i64 x4_1 ∧ Aside0 (spec_l13Block.l0 kq l0 x3_1 x4_1 = some r) ∧ Aside0 (kq ≤ k) ∧ Aside0 (Kd.R Kd.string 9 w' w.heap.size (fun _ => True) v3 x3_1) ∧ Aside0 (Below w.heap.size w w'))
 case atStart => exact ⟨(y21), (0), sd_, H', ⟨Nat.le_refl _⟩, ⟨aRw_ HO23.out⟩, ⟨ab2_⟩⟩
 case round =>
  clear H'
  obtain ⟨x3_1, x4_1, rfl, HA, HK1, HO_3, HB⟩ := hrel
  cases gk with
  | zero => exact absurd HA.out (by simp [spec_l13Block.l0])
  | succ k1 =>
   have H := HA.out
   clear HA
   simp only [spec_l13Block.l0] at H
   by_cases c4 : x4_1 < (l0.length : Int)
   ·rw [if_pos c4] at H
    have c4b0 : decide (x4_1 < (l0.length : Int)) = true := decide_eq_true c4
    clear c4
    by_cases c5 : 0 ≤ x4_1
    ·rw [if_pos c5] at H
     have c5b0 : decide (0 ≤ x4_1) = true := decide_eq_true c5
     clear c5
     obtain ⟨t24, A6, H⟩ := bsa H
     (try dsimp only at H)
     by_cases c7 : x3_1.length + t24.length < 8796093022208
     ·rw [if_pos c7] at H
      have LMc7 := am c7
      clear c7
      obtain ⟨y26, hy_⟩ : ∃ y_ : List ByteArray, y_ = (x3_1 ++ t24) := ⟨_, rfl⟩
      replace H : (spec_l13Block.l0 k1 l0 y26 (wrap64 (x4_1 + 1))) = some r := rx_
      have Ny26 := am hy_
      clear hy_
      have H' := am H
      clear H
      have p27 : 0 ≤ (x4_1 : Int) := of_decide_eq_true asm_
      have q27 : x4_1 < (l0.length : Int) := of_decide_eq_true asm_
      obtain ⟨ad27, A27_5, c27_5, A27_6, c27_6, A27_7, c27_7, e27, hx27_0, hx27_1, hx27_2, hx27_3, hx27_4, hx27_5, hx27_6, hx27_7, hl27_5, hi27_5, hl27_6, hi27_6, hl27_7, hi27_7⟩ := at_T58 HR0.out x4_1 p27 q27
      cases e27
      replace hx27_0 := (HB.out.cell (World.block_lt_of_cell? w _ hx27_0)).trans hx27_0
      replace hx27_1 := (HB.out.cell (World.block_lt_of_cell? w _ hx27_1)).trans hx27_1
      replace hx27_2 := (HB.out.cell (World.block_lt_of_cell? w _ hx27_2)).trans hx27_2
      replace hx27_3 := (HB.out.cell (World.block_lt_of_cell? w _ hx27_3)).trans hx27_3
      replace hx27_4 := (HB.out.cell (World.block_lt_of_cell? w _ hx27_4)).trans hx27_4
      replace hx27_5 := (HB.out.cell (World.block_lt_of_cell? w _ hx27_5)).trans hx27_5
      replace hx27_6 := (HB.out.cell (World.block_lt_of_cell? w _ hx27_6)).trans hx27_6
      replace hx27_7 := (HB.out.cell (World.block_lt_of_cell? w _ hx27_7)).trans hx27_7
      have HR27_5 := am hi27_5
      have HC27_5 := am hl27_5
      clear hi27_5 hl27_5
      have HR27_6 := am hi27_6
      have HC27_6 := am hl27_6
      clear hi27_6 hl27_6
      have HR27_7 := am hi27_7
      have HC27_7 := am hl27_7
      clear hi27_7 hl27_7
      replace p27 := eq_true p27
      replace q27 := eq_true q27
      go_wp2_with (first | ((with_reducible refine gate_callee (f := 49) rfl ?_); refine gl_ 17 Tryz.func49 #[.agg #[.int .i64 ((rd_T58 l0 x4_1).f0), .int .i64 ((rd_T58 l0 x4_1).f1), .int .i64 ((rd_T58 l0 x4_1).f2), .int .i64 ((rd_T58 l0 x4_1).f3.f0), .int .i64 ((rd_T58 l0 x4_1).f3.f1), .slice A27_5 ((rd_T58 l0 x4_1).f3.f2).length c27_5, .slice A27_6 ((rd_T58 l0 x4_1).f4).length c27_6, .slice A27_7 ((rd_T58 l0 x4_1).f5).length c27_7]] ?_; (with_reducible refine (ih_spec_l13Stmt k1 (by have := HK1.out; omega) ((rd_T58 l0 x4_1).f0) ((rd_T58 l0 x4_1).f1) ((rd_T58 l0 x4_1).f2) ((rd_T58 l0 x4_1).f3.f0) ((rd_T58 l0 x4_1).f3.f1) _ _ ((rd_T58 l0 x4_1).f3.f2) _ _ ((rd_T58 l0 x4_1).f4) _ _ ((rd_T58 l0 x4_1).f5) t24 _ (aC_ (Kd.C_below HR27_5.out HB.out)) HC27_5.out (aC_ (Kd.C_below HR27_6.out HB.out)) HC27_6.out (aC_ (Kd.C_below HR27_7.out HB.out)) HC27_7.out A6.out).mono ?_); rintro e w8 ⟨v28, rfl, ho0, hb⟩; refine ⟨_, rfl, ?_⟩; have HO30 := am (Kd.R_lower (Kd.R_new' ho0 (Kd.R_lt (aR_ HO_3.out))) (below_size ab2_)); replace HO_3 := am (Kd.R_elder' (aR_ HO_3.out) (Kd.R_base ho0) hb); replace HB := am (below_step ab2_ hb); (try clear hb); (try clear ho0); obtain ⟨Ao10, co10, eo10⟩ := Kd.R_slice HO30.out; subst eo10) | ((with_reducible refine gate_builtin (b := .append) (xs := #[.tmp 12, .tmp 17]) rfl ?_); at_builtin; refine Kd.R_append_rows Kd.string (w0 := w) w.heap.size rfl (.tmp 12) (.tmp 17) 29 9 (.string ⟨#[]⟩) 16 rfl Tryz.underlying29 info9 rfl (by decide) (by omega) u3 x3_1 t24 _ _ _ (fun k_ => some k_ ≠ (.slice Ao10 t24.length co10 : Value).ownBlock) (fun _ => False) rfl rfl ?aO ?aR (fun _ _ h => h) (fun _ h => h.elim) ?aF ?aB ?aS ?aL ?_; (case aR => repeat (first | exact (Kd.R_reads' HO30.out).2.2 | (with_reducible refine Kd.C_alloc ?_ _) | (with_reducible refine Kd.C_drewN ?_ _) | (with_reducible refine Kd.C_drew ?_))); (case aB => exact ab2_); (case aF => exact (fun k_ hk => Kd.fresh' (Kd.R_lt (aR_ HO30.out)) k_ hk)); (case aO => exact (aRw_ (Kd.R_mono HO_3.out (fun _ hk => hk.2)))); (case aS => exact (below_size ab2_)); (case aL => have := LMc7.out; omega); intro v31 w9 ho hb hg hat; rw [← Ny26.out] at ho; replace HO30 := am (Kd.R_after (ok := (fun _ => True)) (aR_ HO30.out) hg hat); replace HB := am (hb); have HO32 := am (ho); clear HO_3 ho hb hg hat))
      go_roundg k1
      case measure => have := HK1.out; omega
      case rel => exact ⟨(y26), (wrap64 (x4_1 + 1)), sd_, H', ⟨by have := HK1.out; omega⟩, ⟨aRw_ (Kd.R_mono HO32.out (fun _ hk => trivial))⟩, ⟨ab2_⟩⟩
     rw [if_neg c7] at H
     exact absurd H (by simp)
    rw [if_neg c5] at H
    exact absurd H (by simp)
   rw [if_neg c4] at H
   have c4b0 : decide (x4_1 < (l0.length : Int)) = false := decide_eq_false c4
   clear c4
   by_cases c11 : x3_1.length < 8796093022208
   ·rw [if_pos c11] at H
    have LMc11 := am c11
    clear c11
    obtain ⟨y33, hy_⟩ : ∃ y_ : List ByteArray, y_ = (x3_1 ++ [(⟨#[125]⟩ : ByteArray)]) := ⟨_, rfl⟩
    replace H : (some y33) = some r := rx_
    have Ny33 := am hy_
    clear hy_
    obtain rfl := Option.some.inj H
    go_wp2_with (first | ((with_reducible refine gate_builtin (b := .append) (xs := #[.tmp 19, .tmp 20]) rfl ?_); at_builtin; refine Kd.R_append Kd.string (w0 := w) w.heap.size rfl (.tmp 19) (.tmp 20) 29 9 (.string ⟨#[]⟩) 16 rfl Tryz.underlying29 info9 rfl (by decide) (by omega) u3 x3_1 (⟨#[125]⟩ : ByteArray) [.string (⟨#[125]⟩ : ByteArray)] (fun _ => True) (fun _ => False) rfl rfl ?aP (fun _ hk => hk.elim) ?aF ?aO ?aB ?aS ?aL ?_; (case aP => exact rfl); (case aB => exact ab2_); (case aF => exact (fun _ _ => trivial)); (case aO => exact (aR_ HO_3.out)); (case aS => exact (below_size ab2_)); (case aL => have := LMc11.out; omega); intro v34 w12 ho hb hg hat; rw [← Ny33.out] at ho; replace HB := am (hb); have HO35 := am (ho); clear HO_3 ho hb hg hat))
    go_ret
    exact ⟨_, ab13_, aRw_ HO35.out, ab2_⟩
   rw [if_neg c11] at H
   exact absurd H (by simp)
theorem spec_l13Stmt.calls_all (k : Nat) : spec_l13Stmt.CallsAt k ∧ spec_l13Block.CallsAt k := by
 induction k using Nat.strongRecOn with
 | _ k ih => exact ⟨spec_l13Stmt.step k (ih_spec_l13Stmt := fun m hm => (ih m hm).1) (ih_spec_l13Block := fun m hm => (ih m hm).2), spec_l13Block.step k (ih_spec_l13Stmt := fun m hm => (ih m hm).1) (ih_spec_l13Block := fun m hm => (ih m hm).2)⟩
theorem spec_l13Stmt.calls (k : Nat) : spec_l13Stmt.CallsAt k := (spec_l13Stmt.calls_all k).1
theorem spec_l13Block.calls (k : Nat) : spec_l13Block.CallsAt k := (spec_l13Stmt.calls_all k).2
theorem spec_l3Kind.mono_l : ∀ k, (∀ y0 y1, LeO (spec_l3Kind.j0 k y0 y1) (spec_l3Kind.j0 (k + 1) y0 y1)) ∧ (∀ y0 y1, LeO (spec_l3Kind.j1 k y0 y1) (spec_l3Kind.j1 (k + 1) y0 y1)) ∧ (∀ y0 y1 y2, LeO (spec_l3Kind.l0 k y0 y1 y2) (spec_l3Kind.l0 (k + 1) y0 y1 y2))
 | 0 => ⟨fun _ _ r h => by simp [spec_l3Kind.j0] at h, fun _ _ r h => by simp [spec_l3Kind.j1] at h, fun _ _ _ r h => by simp [spec_l3Kind.l0] at h⟩
 | k + 1 => by
  obtain ⟨ih0, ih1, ih2⟩ := spec_l3Kind.mono_l k
  refine ⟨?_, ?_, ?_⟩
  ·intro y0 y1
   unfold spec_l3Kind.j0
   exact mo_
  ·intro y0 y1
   unfold spec_l3Kind.j1
   exact mo_
  ·intro y0 y1 y2
   unfold spec_l3Kind.l0
   exact mo_
theorem spec_l3Kind.mono : ∀ a0 k, LeO (spec_l3Kind.f k a0) (spec_l3Kind.f (k + 1) a0) := by
 intro a0 k
 obtain ⟨ih0, ih1, ih2⟩ := spec_l3Kind.mono_l k
 unfold spec_l3Kind.f
 exact mo_
theorem spec_l3Kind.calls (k : Nat) (a0 : Int) (r : Int) (w : World) (h : spec_l3Kind.f k a0 = some r) :
  Calls Tryz.prog 98 #[.int .u8 a0] w fun e w' => e = .returned (.int .i64 r) ∧ Drawn0 w w' := by
 have H : (if a0 ≥ 48 then (spec_l3Kind.j0 k a0 (decide (a0 ≤ 57))) else (spec_l3Kind.j0 k a0 false)) = some r := h
 clear h
 have HC2 := am H
 clear H
 go_enter Tryz.func98, Tryz.ntmps98
 go_upto_region 1 with (fail)
 go_cut [5] (fun v5 wc => ∃ (kq : Nat) (x5_1 : Bool), v5 = .bool x5_1 ∧ Aside0 (spec_l3Kind.j0 kq a0 x5_1 = some r) ∧ Aside0 (kq ≤ k) ∧ Drawn0 w wc)
 case first =>
  have H := HC2.out
  clear HC2
  by_cases c3 : a0 ≥ 48
  ·rw [if_pos c3] at H
   have c3b0 : decide (48 ≤ a0) = true := decide_eq_true c3
   clear c3
   (first | rw [c3b0] | (simp only [i64_w, i32_w]; rw [c3b0]) | skip)
   have H' := am H
   clear H
   go_wp2
   go_meet
   case rel => exact ⟨_, (decide (a0 ≤ 57)), sd_, H', ⟨by first | omega | exact Nat.le_refl _⟩, ab18_⟩
  rw [if_neg c3] at H
  have c3b0 : decide (48 ≤ a0) = false := decide_eq_false c3
  clear c3
  (first | rw [c3b0] | (simp only [i64_w, i32_w]; rw [c3b0]) | skip)
  have H' := am H
  clear H
  go_wp2
  go_meet
  case rel => exact ⟨_, (false), sd_, H', ⟨by first | omega | exact Nat.le_refl _⟩, ab18_⟩
 case rest =>
  clear HC2
  obtain ⟨kq, x5_1, rfl, HA, HJ1, ⟨mc1, rfl⟩⟩ := hcut
  cases kq with
  | zero => exact absurd HA.out (by simp [spec_l3Kind.j0])
  | succ kj1 =>
   have H := HA.out
   clear HA
   simp only [spec_l3Kind.j0] at H
   by_cases c4 : x5_1 = true
   ·subst c4
    rw [if_pos rfl] at H
    obtain rfl := Option.some.inj H
    go_wp2
    go_ret
    exact ⟨sd_, ab18_⟩
   replace c4 := Bool.eq_false_iff.mpr c4
   subst c4
   rw [if_neg (show ¬ (false = true) by decide)] at H
   have HC5 := am H
   clear H
   go_upto_region 3 with (fail)
   go_cut [12] (fun v12 wc => ∃ (kq : Nat) (x12_4 : Bool), v12 = .bool x12_4 ∧ Aside0 (spec_l3Kind.j1 kq a0 x12_4 = some r) ∧ Aside0 (kq ≤ kj1) ∧ Drawn0 w wc)
   case first =>
    have H := HC5.out
    clear HC5
    by_cases c6 : a0 ≥ 97
    ·rw [if_pos c6] at H
     have c6b0 : decide (97 ≤ a0) = true := decide_eq_true c6
     clear c6
     (first | rw [c6b0] | (simp only [i64_w, i32_w]; rw [c6b0]) | skip)
     have H' := am H
     clear H
     go_wp2
     go_meet
     case rel => exact ⟨_, (decide (a0 ≤ 122)), sd_, H', ⟨by have := HJ1.out; first | omega | exact Nat.le_refl _⟩, ab18_⟩
    rw [if_neg c6] at H
    have c6b0 : decide (97 ≤ a0) = false := decide_eq_false c6
    clear c6
    (first | rw [c6b0] | (simp only [i64_w, i32_w]; rw [c6b0]) | skip)
    have H' := am H
    clear H
    go_wp2
    go_meet
    case rel => exact ⟨_, (false), sd_, H', ⟨by have := HJ1.out; first | omega | exact Nat.le_refl _⟩, ab18_⟩
   case rest =>
    clear HC5
    try clear c4
    obtain ⟨kq, x12_4, rfl, HA, HJ4, ⟨mc4, rfl⟩⟩ := hcut
    cases kq with
    | zero => exact absurd HA.out (by simp [spec_l3Kind.j1])
    | succ kj4 =>
     have H := HA.out
     clear HA
     simp only [spec_l3Kind.j1] at H
     by_cases c7 : x12_4 = true
     ·subst c7
      rw [if_pos rfl] at H
      obtain rfl := Option.some.inj H
      go_wp2
      go_ret
      exact ⟨sd_, ab18_⟩
     replace c7 := Bool.eq_false_iff.mpr c7
     subst c7
     rw [if_neg (show ¬ (false = true) by decide)] at H
     by_cases c8 : a0 = 32
     ·rw [if_pos c8] at H
      have c8b0 : (a0 == 32) = true := beq_iff_eq.mpr c8
      have c8b1 : (a0 != 32) = false := bne_eq_false_iff_eq.mpr c8
      clear c8
      obtain rfl := Option.some.inj H
      go_wp2
      go_ret
      exact ⟨sd_, ab18_⟩
     rw [if_neg c8] at H
     have c8b0 : (a0 == 32) = false := beq_eq_false_iff_ne.mpr c8
     have c8b1 : (a0 != 32) = true := bne_iff_ne.mpr c8
     by_cases c9 : a0 = 10
     ·rw [if_pos c9] at H
      have c9b0 : (a0 == 10) = true := beq_iff_eq.mpr c9
      have c9b1 : (a0 != 10) = false := bne_eq_false_iff_eq.mpr c9
      clear c9
      obtain rfl := Option.some.inj H
      go_wp2
      go_ret
      exact ⟨sd_, ab18_⟩
     rw [if_neg c9] at H
     have c9b0 : (a0 == 10) = false := beq_eq_false_iff_ne.mpr c9
     have c9b1 : (a0 != 10) = true := bne_iff_ne.mpr c9
     have H' := am H
     clear H
     go_wp2
     go_loopg [4] kj4 (fun kq v4 w' => ∃ (x4_3 : Int), v4 = .int .i64 x4_3 ∧ Aside0 (spec_l3Kind.l0 kq a0 (⟨#[43, 45, 42, 47, 37, 38, 124, 94, 60, 62, 40, 41, 123, 125, 61, 59]⟩ : ByteArray) x4_3 = some r) ∧ Aside0 (kq ≤ kj4) ∧ Drawn0 w w')
     case atStart => exact ⟨(0), sd_, H', ⟨Nat.le_refl _⟩, ab18_⟩
     case round =>
      clear H'
      try clear c4
      try clear c7
      try clear c8
      try clear c8b0
      try clear c8b1
      try clear c9
      try clear c9b0
      try clear c9b1
      obtain ⟨x4_3, rfl, HA, HK3, ⟨m3, rfl⟩⟩ := hrel
      cases gk with
      | zero => exact absurd HA.out (by simp [spec_l3Kind.l0])
      | succ k3 =>
       have H := HA.out
       clear HA
       simp only [spec_l3Kind.l0] at H
       by_cases c10 : x4_3 < ((⟨#[43, 45, 42, 47, 37, 38, 124, 94, 60, 62, 40, 41, 123, 125, 61, 59]⟩ : ByteArray).size : Int)
       ·rw [if_pos c10] at H
        have c10b0 : decide (x4_3 < ((⟨#[43, 45, 42, 47, 37, 38, 124, 94, 60, 62, 40, 41, 123, 125, 61, 59]⟩ : ByteArray).size : Int)) = true := decide_eq_true c10
        have c10bz : (x4_3 < 16) = True := eq_true (show x4_3 < 16 from c10)
        clear c10
        by_cases c11 : 0 ≤ x4_3
        ·rw [if_pos c11] at H
         have c11b0 : decide (0 ≤ x4_3) = true := decide_eq_true c11
         clear c11
         by_cases c13 : (bt (⟨#[43, 45, 42, 47, 37, 38, 124, 94, 60, 62, 40, 41, 123, 125, 61, 59]⟩ : ByteArray) x4_3) = a0
         ·rw [if_pos c13] at H
          have c13b0 : ((bt (⟨#[43, 45, 42, 47, 37, 38, 124, 94, 60, 62, 40, 41, 123, 125, 61, 59]⟩ : ByteArray) x4_3) == a0) = true := beq_iff_eq.mpr c13
          have c13b1 : ((bt (⟨#[43, 45, 42, 47, 37, 38, 124, 94, 60, 62, 40, 41, 123, 125, 61, 59]⟩ : ByteArray) x4_3) != a0) = false := bne_eq_false_iff_eq.mpr c13
          clear c13
          obtain rfl := Option.some.inj H
          have p12 : 0 ≤ (x4_3 : Int) := of_decide_eq_true asm_
          have q12 : x4_3 < (16 : Int) := of_decide_eq_true asm_
          have hx12 := bt_at (⟨#[43, 45, 42, 47, 37, 38, 124, 94, 60, 62, 40, 41, 123, 125, 61, 59]⟩ : ByteArray) x4_3
          replace p12 := eq_true p12
          replace q12 := eq_true q12
          go_wp2
          go_ret
          exact ⟨sd_, ab18_⟩
         rw [if_neg c13] at H
         have c13b0 : ((bt (⟨#[43, 45, 42, 47, 37, 38, 124, 94, 60, 62, 40, 41, 123, 125, 61, 59]⟩ : ByteArray) x4_3) == a0) = false := beq_eq_false_iff_ne.mpr c13
         have c13b1 : ((bt (⟨#[43, 45, 42, 47, 37, 38, 124, 94, 60, 62, 40, 41, 123, 125, 61, 59]⟩ : ByteArray) x4_3) != a0) = true := bne_iff_ne.mpr c13
         have H' := am H
         clear H
         have p12 : 0 ≤ (x4_3 : Int) := of_decide_eq_true asm_
         have q12 : x4_3 < (16 : Int) := of_decide_eq_true asm_
         have hx12 := bt_at (⟨#[43, 45, 42, 47, 37, 38, 124, 94, 60, 62, 40, 41, 123, 125, 61, 59]⟩ : ByteArray) x4_3
         replace p12 := eq_true p12
         replace q12 := eq_true q12
         go_wp2
         go_roundg k3
         case measure => have := HJ1.out; have := HJ4.out; have := HK3.out; omega
         case rel => exact ⟨(wrap64 (x4_3 + 1)), sd_, H', ⟨by have := HJ1.out; have := HJ4.out; have := HK3.out; omega⟩, ab18_⟩
        rw [if_neg c11] at H
        exact absurd H (by simp)
       rw [if_neg c10] at H
       have c10b0 : decide (x4_3 < ((⟨#[43, 45, 42, 47, 37, 38, 124, 94, 60, 62, 40, 41, 123, 125, 61, 59]⟩ : ByteArray).size : Int)) = false := decide_eq_false c10
       have c10bz : (x4_3 < 16) = False := eq_false (show ¬ (x4_3 < 16) from c10)
       clear c10
       obtain rfl := Option.some.inj H
       go_wp2
       go_ret
       exact ⟨sd_, ab18_⟩
theorem spec_l3Run.mono_l : ∀ k, (∀ y0 y1 y2, LeO (spec_l3Run.l0 k y0 y1 y2) (spec_l3Run.l0 (k + 1) y0 y1 y2))
 | 0 => fun _ _ _ r h => by simp [spec_l3Run.l0] at h
 | k + 1 => by
  have ih0 := spec_l3Run.mono_l k
  ·intro y0 y1 y2
   unfold spec_l3Run.l0
   have m0 := @spec_l3Kind.mono
   exact mo_
theorem spec_l3Run.mono : ∀ a0 a1 k, LeO (spec_l3Run.f k a0 a1) (spec_l3Run.f (k + 1) a0 a1) := by
 intro a0 a1 k
 have ih0 := spec_l3Run.mono_l k
 unfold spec_l3Run.f
 have m0 := @spec_l3Kind.mono
 exact mo_
theorem spec_l3Run.calls (k : Nat) (a0 : ByteArray) (a1 : Int) (r : Int) (w : World) (h : spec_l3Run.f k a0 a1 = some r) :
  Calls Tryz.prog 99 #[.string a0, .int .i64 a1] w fun e w' => e = .returned (.int .i64 r) ∧ Drawn0 w w' := by
 have H : (spec_l3Run.l0 k a0 a1 a1) = some r := h
 clear h
 have H' := am H
 clear H
 go_enter Tryz.func99, Tryz.ntmps99
 go_wp2
 repeat (go_quiet (fail); try go_wp2)
 go_loopg [5] k (fun kq v5 w' => ∃ (x5_1 : Int), v5 = .int .i64 x5_1 ∧ Aside0 (spec_l3Run.l0 kq a0 a1 x5_1 = some r) ∧ Aside0 (kq ≤ k) ∧ Drawn0 w w')
 case atStart => exact ⟨(a1), sd_, H', ⟨Nat.le_refl _⟩, ab18_⟩
 case round =>
  clear H'
  obtain ⟨x5_1, rfl, HA, HK1, ⟨m1, rfl⟩⟩ := hrel
  cases gk with
  | zero => exact absurd HA.out (by simp [spec_l3Run.l0])
  | succ k1 =>
   have H := HA.out
   clear HA
   simp only [spec_l3Run.l0] at H
   by_cases c3 : x5_1 < (a0.size : Int)
   ·rw [if_pos c3] at H
    have c3b0 : decide (x5_1 < (a0.size : Int)) = true := decide_eq_true c3
    clear c3
    by_cases c4 : 0 ≤ x5_1
    ·rw [if_pos c4] at H
     have c4b0 : decide (0 ≤ x5_1) = true := decide_eq_true c4
     clear c4
     obtain ⟨t20, A6, H⟩ := bsa H
     (try dsimp only at H)
     by_cases c7 : 0 ≤ a1
     ·rw [if_pos c7] at H
      have c7b0 : decide (0 ≤ a1) = true := decide_eq_true c7
      clear c7
      by_cases c8 : a1 < (a0.size : Int)
      ·rw [if_pos c8] at H
       have c8b0 : decide (a1 < (a0.size : Int)) = true := decide_eq_true c8
       clear c8
       obtain ⟨t21, A22, H⟩ := bsm H
       (try dsimp only at H)
       have A10 := am A22
       clear A22
       by_cases c11 : t20 = t21
       ·rw [if_pos c11] at H
        have c11b0 : (t20 == t21) = true := beq_iff_eq.mpr c11
        have c11b1 : (t20 != t21) = false := bne_eq_false_iff_eq.mpr c11
        clear c11
        have H' := am H
        clear H
        have p5 : 0 ≤ (x5_1 : Int) := of_decide_eq_true asm_
        have q5 : x5_1 < (a0.size : Int) := of_decide_eq_true asm_
        have hx5 := bt_at a0 x5_1
        replace p5 := eq_true p5
        replace q5 := eq_true q5
        go_wp2_with (first | (go_at_call 98; (with_reducible refine (spec_l3Kind.calls k1 (bt a0 x5_1) t20 _ A6.out).mono ?_); rintro e w' ⟨rfl, ⟨nd, rfl⟩⟩; (try first | exact ⟨rfl, _, World.drewN_drewN _ _ _⟩ | exact ⟨rfl, _, Eq.trans (World.drewN_drewN _ _ _) (congrArg (World.drewN _) (Nat.add_assoc _ _ _))⟩); have p9 : 0 ≤ (a1 : Int) := of_decide_eq_true asm_; have q9 : a1 < (a0.size : Int) := of_decide_eq_true asm_; have hx9 := bt_at a0 a1; replace p9 := eq_true p9; replace q9 := eq_true q9) | (go_at_call 98; (with_reducible refine (spec_l3Kind.calls k1 (bt a0 a1) t21 _ A10.out).mono ?_); rintro e w' ⟨rfl, ⟨nd, rfl⟩⟩; (try first | exact ⟨rfl, _, World.drewN_drewN _ _ _⟩ | exact ⟨rfl, _, Eq.trans (World.drewN_drewN _ _ _) (congrArg (World.drewN _) (Nat.add_assoc _ _ _))⟩)))
        repeat (go_quiet (first | (go_at_call 98; (with_reducible refine (spec_l3Kind.calls k1 (bt a0 x5_1) t20 _ A6.out).mono ?_); rintro e w' ⟨rfl, ⟨nd, rfl⟩⟩; (try first | exact ⟨rfl, _, World.drewN_drewN _ _ _⟩ | exact ⟨rfl, _, Eq.trans (World.drewN_drewN _ _ _) (congrArg (World.drewN _) (Nat.add_assoc _ _ _))⟩); have p9 : 0 ≤ (a1 : Int) := of_decide_eq_true asm_; have q9 : a1 < (a0.size : Int) := of_decide_eq_true asm_; have hx9 := bt_at a0 a1; replace p9 := eq_true p9; replace q9 := eq_true q9) | (go_at_call 98; (with_reducible refine (spec_l3Kind.calls k1 (bt a0 a1) t21 _ A10.out).mono ?_); rintro e w' ⟨rfl, ⟨nd, rfl⟩⟩; (try first | exact ⟨rfl, _, World.drewN_drewN _ _ _⟩ | exact ⟨rfl, _, Eq.trans (World.drewN_drewN _ _ _) (congrArg (World.drewN _) (Nat.add_assoc _ _ _))⟩))); try go_wp2_with (first | (go_at_call 98; (with_reducible refine (spec_l3Kind.calls k1 (bt a0 x5_1) t20 _ A6.out).mono ?_); rintro e w' ⟨rfl, ⟨nd, rfl⟩⟩; (try first | exact ⟨rfl, _, World.drewN_drewN _ _ _⟩ | exact ⟨rfl, _, Eq.trans (World.drewN_drewN _ _ _) (congrArg (World.drewN _) (Nat.add_assoc _ _ _))⟩); have p9 : 0 ≤ (a1 : Int) := of_decide_eq_true asm_; have q9 : a1 < (a0.size : Int) := of_decide_eq_true asm_; have hx9 := bt_at a0 a1; replace p9 := eq_true p9; replace q9 := eq_true q9) | (go_at_call 98; (with_reducible refine (spec_l3Kind.calls k1 (bt a0 a1) t21 _ A10.out).mono ?_); rintro e w' ⟨rfl, ⟨nd, rfl⟩⟩; (try first | exact ⟨rfl, _, World.drewN_drewN _ _ _⟩ | exact ⟨rfl, _, Eq.trans (World.drewN_drewN _ _ _) (congrArg (World.drewN _) (Nat.add_assoc _ _ _))⟩))))
        go_roundg k1
        case measure => have := HK1.out; omega
        case rel => exact ⟨(wrap64 (x5_1 + 1)), sd_, H', ⟨by have := HK1.out; omega⟩, ab18_⟩
       rw [if_neg c11] at H
       have c11b0 : (t20 == t21) = false := beq_eq_false_iff_ne.mpr c11
       have c11b1 : (t20 != t21) = true := bne_iff_ne.mpr c11
       obtain rfl := Option.some.inj H
       have p5 : 0 ≤ (x5_1 : Int) := of_decide_eq_true asm_
       have q5 : x5_1 < (a0.size : Int) := of_decide_eq_true asm_
       have hx5 := bt_at a0 x5_1
       replace p5 := eq_true p5
       replace q5 := eq_true q5
       go_wp2_with (first | (go_at_call 98; (with_reducible refine (spec_l3Kind.calls k1 (bt a0 x5_1) t20 _ A6.out).mono ?_); rintro e w' ⟨rfl, ⟨nd, rfl⟩⟩; (try first | exact ⟨rfl, _, World.drewN_drewN _ _ _⟩ | exact ⟨rfl, _, Eq.trans (World.drewN_drewN _ _ _) (congrArg (World.drewN _) (Nat.add_assoc _ _ _))⟩); have p9 : 0 ≤ (a1 : Int) := of_decide_eq_true asm_; have q9 : a1 < (a0.size : Int) := of_decide_eq_true asm_; have hx9 := bt_at a0 a1; replace p9 := eq_true p9; replace q9 := eq_true q9) | (go_at_call 98; (with_reducible refine (spec_l3Kind.calls k1 (bt a0 a1) t21 _ A10.out).mono ?_); rintro e w' ⟨rfl, ⟨nd, rfl⟩⟩; (try first | exact ⟨rfl, _, World.drewN_drewN _ _ _⟩ | exact ⟨rfl, _, Eq.trans (World.drewN_drewN _ _ _) (congrArg (World.drewN _) (Nat.add_assoc _ _ _))⟩)))
       repeat (go_quiet (first | (go_at_call 98; (with_reducible refine (spec_l3Kind.calls k1 (bt a0 x5_1) t20 _ A6.out).mono ?_); rintro e w' ⟨rfl, ⟨nd, rfl⟩⟩; (try first | exact ⟨rfl, _, World.drewN_drewN _ _ _⟩ | exact ⟨rfl, _, Eq.trans (World.drewN_drewN _ _ _) (congrArg (World.drewN _) (Nat.add_assoc _ _ _))⟩); have p9 : 0 ≤ (a1 : Int) := of_decide_eq_true asm_; have q9 : a1 < (a0.size : Int) := of_decide_eq_true asm_; have hx9 := bt_at a0 a1; replace p9 := eq_true p9; replace q9 := eq_true q9) | (go_at_call 98; (with_reducible refine (spec_l3Kind.calls k1 (bt a0 a1) t21 _ A10.out).mono ?_); rintro e w' ⟨rfl, ⟨nd, rfl⟩⟩; (try first | exact ⟨rfl, _, World.drewN_drewN _ _ _⟩ | exact ⟨rfl, _, Eq.trans (World.drewN_drewN _ _ _) (congrArg (World.drewN _) (Nat.add_assoc _ _ _))⟩))); try go_wp2_with (first | (go_at_call 98; (with_reducible refine (spec_l3Kind.calls k1 (bt a0 x5_1) t20 _ A6.out).mono ?_); rintro e w' ⟨rfl, ⟨nd, rfl⟩⟩; (try first | exact ⟨rfl, _, World.drewN_drewN _ _ _⟩ | exact ⟨rfl, _, Eq.trans (World.drewN_drewN _ _ _) (congrArg (World.drewN _) (Nat.add_assoc _ _ _))⟩); have p9 : 0 ≤ (a1 : Int) := of_decide_eq_true asm_; have q9 : a1 < (a0.size : Int) := of_decide_eq_true asm_; have hx9 := bt_at a0 a1; replace p9 := eq_true p9; replace q9 := eq_true q9) | (go_at_call 98; (with_reducible refine (spec_l3Kind.calls k1 (bt a0 a1) t21 _ A10.out).mono ?_); rintro e w' ⟨rfl, ⟨nd, rfl⟩⟩; (try first | exact ⟨rfl, _, World.drewN_drewN _ _ _⟩ | exact ⟨rfl, _, Eq.trans (World.drewN_drewN _ _ _) (congrArg (World.drewN _) (Nat.add_assoc _ _ _))⟩))))
       go_ret
       exact ⟨sd_, ab18_⟩
      rw [if_neg c8] at H
      exact absurd H (by simp)
     rw [if_neg c7] at H
     exact absurd H (by simp)
    rw [if_neg c4] at H
    exact absurd H (by simp)
   rw [if_neg c3] at H
   have c3b0 : decide (x5_1 < (a0.size : Int)) = false := decide_eq_false c3
   clear c3
   obtain rfl := Option.some.inj H
   go_wp2
   repeat (go_quiet (fail); try go_wp2)
   go_ret
   exact ⟨sd_, ab18_⟩
theorem spec_l3Two.calls (a0 : ByteArray) (r : Bool) (w : World) (h : spec_l3Two.f a0 = some r) :
  Calls Tryz.prog 100 #[.string a0] w fun e w' => e = .returned (.bool r) ∧ Drawn0 w w' := by
 have H : (if a0.toList = ([60, 60] : List UInt8) then (some true) else (if a0.toList = ([62, 62] : List UInt8) then (some true) else (some (a0.toList == ([61, 61] : List UInt8))))) = some r := h
 clear h
 by_cases c2 : a0.toList = ([60, 60] : List UInt8)
 ·rw [if_pos c2] at H
  have c2b0 : (a0.toList == ([60, 60] : List UInt8)) = true := beq_iff_eq.mpr c2
  have c2b1 : (a0.toList != ([60, 60] : List UInt8)) = false := bne_eq_false_iff_eq.mpr c2
  clear c2
  obtain rfl := Option.some.inj H
  go_enter Tryz.func100, Tryz.ntmps100
  go_wp2
  go_ret
  exact ⟨sd_, ab18_⟩
 rw [if_neg c2] at H
 have c2b0 : (a0.toList == ([60, 60] : List UInt8)) = false := beq_eq_false_iff_ne.mpr c2
 have c2b1 : (a0.toList != ([60, 60] : List UInt8)) = true := bne_iff_ne.mpr c2
 by_cases c3 : a0.toList = ([62, 62] : List UInt8)
 ·rw [if_pos c3] at H
  have c3b0 : (a0.toList == ([62, 62] : List UInt8)) = true := beq_iff_eq.mpr c3
  have c3b1 : (a0.toList != ([62, 62] : List UInt8)) = false := bne_eq_false_iff_eq.mpr c3
  clear c3
  obtain rfl := Option.some.inj H
  go_enter Tryz.func100, Tryz.ntmps100
  go_wp2
  go_ret
  exact ⟨sd_, ab18_⟩
 rw [if_neg c3] at H
 have c3b0 : (a0.toList == ([62, 62] : List UInt8)) = false := beq_eq_false_iff_ne.mpr c3
 have c3b1 : (a0.toList != ([62, 62] : List UInt8)) = true := bne_iff_ne.mpr c3
 obtain rfl := Option.some.inj H
 go_enter Tryz.func100, Tryz.ntmps100
 go_wp2
 go_ret
 exact ⟨sd_, ab18_⟩
theorem spec_l3End.mono_l : ∀ k, (∀ y0 y1 y2 y3, LeO (spec_l3End.j0 k y0 y1 y2 y3) (spec_l3End.j0 (k + 1) y0 y1 y2 y3)) ∧ (∀ y0 y1 y2, LeO (spec_l3End.j1 k y0 y1 y2) (spec_l3End.j1 (k + 1) y0 y1 y2))
 | 0 => ⟨fun _ _ _ _ r h => by simp [spec_l3End.j0] at h, fun _ _ _ r h => by simp [spec_l3End.j1] at h⟩
 | k + 1 => by
  obtain ⟨ih0, ih1⟩ := spec_l3End.mono_l k
  refine ⟨?_, ?_⟩
  ·intro y0 y1 y2 y3
   unfold spec_l3End.j0
   have m0 := @spec_l3Kind.mono
   have m1 := @spec_l3Run.mono
   exact mo_
  ·intro y0 y1 y2
   unfold spec_l3End.j1
   have m0 := @spec_l3Kind.mono
   have m1 := @spec_l3Run.mono
   exact mo_
theorem spec_l3End.mono : ∀ a0 a1 k, LeO (spec_l3End.f k a0 a1) (spec_l3End.f (k + 1) a0 a1) := by
 intro a0 a1 k
 obtain ⟨ih0, ih1⟩ := spec_l3End.mono_l k
 unfold spec_l3End.f
 have m0 := @spec_l3Kind.mono
 have m1 := @spec_l3Run.mono
 exact mo_
theorem spec_l3End.calls (k : Nat) (a0 : ByteArray) (a1 : Int) (r : Int) (w : World) (h : spec_l3End.f k a0 a1 = some r) :
  Calls Tryz.prog 75 #[.string a0, .int .i64 a1] w fun e w' => e = .returned (.int .i64 r) ∧ Drawn0 w w' := by
 have H : (if 0 ≤ a1 then (if a1 < (a0.size : Int) then ((spec_l3Kind.f k (bt a0 a1)).bind fun t23 => (if t23 = 1 then (spec_l3End.j0 k a0 a1 t23 true) else (spec_l3End.j0 k a0 a1 t23 (t23 == 2)))) else (none)) else (none)) = some r := h
 clear h
 by_cases c3 : 0 ≤ a1
 ·rw [if_pos c3] at H
  have c3b0 : decide (0 ≤ a1) = true := decide_eq_true c3
  clear c3
  by_cases c4 : a1 < (a0.size : Int)
  ·rw [if_pos c4] at H
   have c4b0 : decide (a1 < (a0.size : Int)) = true := decide_eq_true c4
   clear c4
   obtain ⟨t23, A6, H⟩ := bsa H
   (try dsimp only at H)
   have HC7 := am H
   clear H
   have p5 : 0 ≤ (a1 : Int) := of_decide_eq_true asm_
   have q5 : a1 < (a0.size : Int) := of_decide_eq_true asm_
   have hx5 := bt_at a0 a1
   replace p5 := eq_true p5
   replace q5 := eq_true q5
   go_enter Tryz.func75, Tryz.ntmps75
   go_upto_region 2 with (first | ((with_reducible refine gate_callee (f := 98) rfl ?_); refine gl_ 9 Tryz.func98 #[.int .u8 (bt a0 a1)] ?_; (with_reducible refine (spec_l3Kind.calls k (bt a0 a1) t23 _ A6.out).mono ?_); rintro e w' ⟨rfl, ⟨nd, rfl⟩⟩; refine ⟨_, rfl, ?_⟩))
   (try simp only [Act.put, List.setIfInBounds_toArray, List.set_cons_zero, List.set_cons_succ])
   go_cut [15] (fun v15 wc => ∃ (kq : Nat) (x15_6 : Bool), v15 = .bool x15_6 ∧ Aside0 (spec_l3End.j0 kq a0 a1 t23 x15_6 = some r) ∧ Aside0 (kq ≤ k) ∧ Drawn0 w wc)
   case first =>
    have H := HC7.out
    clear HC7
    by_cases c8 : t23 = 1
    ·rw [if_pos c8] at H
     have c8b0 : (t23 == 1) = true := beq_iff_eq.mpr c8
     have c8b1 : (t23 != 1) = false := bne_eq_false_iff_eq.mpr c8
     clear c8
     (first | rw [c8b0] | (simp only [i64_w, i32_w]; rw [c8b0]) | skip)
     have H' := am H
     clear H
     go_wp2
     go_meet
     case rel => exact ⟨_, (true), sd_, H', ⟨by first | omega | exact Nat.le_refl _⟩, ab18_⟩
    rw [if_neg c8] at H
    have c8b0 : (t23 == 1) = false := beq_eq_false_iff_ne.mpr c8
    have c8b1 : (t23 != 1) = true := bne_iff_ne.mpr c8
    (first | rw [c8b0] | (simp only [i64_w, i32_w]; rw [c8b0]) | skip)
    have H' := am H
    clear H
    go_wp2
    go_meet
    case rel => exact ⟨_, ((t23 == 2)), sd_, H', ⟨by first | omega | exact Nat.le_refl _⟩, ab18_⟩
   case rest =>
    clear HC7
    try clear c3
    try clear c3b0
    try clear c4
    try clear c4b0
    try clear p5
    try clear q5
    try clear hx5
    try clear p5
    try clear q5
    obtain ⟨kq, x15_6, rfl, HA, HJ6, ⟨mc6, rfl⟩⟩ := hcut
    cases kq with
    | zero => exact absurd HA.out (by simp [spec_l3End.j0])
    | succ kj6 =>
     have H := HA.out
     clear HA
     simp only [spec_l3End.j0] at H
     by_cases c9 : x15_6 = true
     ·subst c9
      rw [if_pos rfl] at H
      obtain ⟨t24, A25, H⟩ := bsm H
      (try dsimp only at H)
      have A10 := am A25
      clear A25
      obtain rfl := Option.some.inj H
      go_wp2_with (first | ((with_reducible refine gate_callee (f := 99) rfl ?_); refine gl_ 18 Tryz.func99 #[.string a0, .int .i64 a1] ?_; (with_reducible refine (spec_l3Run.calls kj6 a0 a1 t24 _ A10.out).mono ?_); rintro e w' ⟨rfl, ⟨nd, rfl⟩⟩; refine ⟨_, rfl, ?_⟩))
      go_ret
      exact ⟨sd_, ab18_⟩
     replace c9 := Bool.eq_false_iff.mpr c9
     subst c9
     rw [if_neg (show ¬ (false = true) by decide)] at H
     by_cases c11 : t23 = 4
     ·rw [if_pos c11] at H
      have c11b0 : (t23 == 4) = true := beq_iff_eq.mpr c11
      have c11b1 : (t23 != 4) = false := bne_eq_false_iff_eq.mpr c11
      clear c11
      have HC12 := am H
      clear H
      go_upto_region 6 with (fail)
      go_cut [33] (fun v33 wc => ∃ (kq : Nat) (x33_11 : Bool), v33 = .bool x33_11 ∧ Aside0 (spec_l3End.j1 kq a0 a1 x33_11 = some r) ∧ Aside0 (kq ≤ kj6) ∧ Drawn0 w wc)
      case first =>
       have H := HC12.out
       clear HC12
       by_cases c13 : (wrap64 (a1 + 2)) ≤ (a0.size : Int)
       ·rw [if_pos c13] at H
        have c13b0 : decide ((wrap64 (a1 + 2)) ≤ (a0.size : Int)) = true := decide_eq_true c13
        clear c13
        (first | rw [c13b0] | (simp only [i64_w, i32_w]; rw [c13b0]) | skip)
        by_cases c14 : 0 ≤ a1
        ·rw [if_pos c14] at H
         have c14b0 := eq_true c14
         have c14b1 : decide (0 ≤ a1) = true := decide_eq_true c14
         clear c14
         by_cases c15 : a1 ≤ (wrap64 (a1 + 2))
         ·rw [if_pos c15] at H
          have c15b0 := eq_true c15
          have c15b1 : decide (a1 ≤ (wrap64 (a1 + 2))) = true := decide_eq_true c15
          have c16b0 := eq_true (of_decide_eq_true asm_ : (wrap64 (a1 + 2)) ≤ (a0.size : Int))
          obtain ⟨t26, A27, H⟩ := bsm H
          (try dsimp only at H)
          have A17 := am A27
          clear A27
          have H' := am H
          clear H
          go_wp2_with (first | (go_at_call 100; (with_reducible refine (spec_l3Two.calls (a0.extract (a1 : Int).toNat ((wrap64 (a1 + 2)) : Int).toNat) t26 _ A17.out).mono ?_); rintro e w' ⟨rfl, ⟨nd, rfl⟩⟩))
          go_meet
          case rel => exact ⟨_, (t26), sd_, H', ⟨by have := HJ6.out; first | omega | exact Nat.le_refl _⟩, ab18_⟩
         rw [if_neg c15] at H
         exact absurd H (by simp)
        rw [if_neg c14] at H
        exact absurd H (by simp)
       rw [if_neg c13] at H
       have c13b0 : decide ((wrap64 (a1 + 2)) ≤ (a0.size : Int)) = false := decide_eq_false c13
       clear c13
       (first | rw [c13b0] | (simp only [i64_w, i32_w]; rw [c13b0]) | skip)
       have H' := am H
       clear H
       go_wp2
       go_meet
       case rel => exact ⟨_, (false), sd_, H', ⟨by have := HJ6.out; first | omega | exact Nat.le_refl _⟩, ab18_⟩
      case rest =>
       clear HC12
       try clear c3
       try clear c3b0
       try clear c4
       try clear c4b0
       try clear p5
       try clear q5
       try clear hx5
       try clear c9
       try clear c11
       try clear c11b0
       try clear c11b1
       try clear p5
       try clear q5
       obtain ⟨kq, x33_11, rfl, HA, HJ11, ⟨mc11, rfl⟩⟩ := hcut
       cases kq with
       | zero => exact absurd HA.out (by simp [spec_l3End.j1])
       | succ kj11 =>
        have H := HA.out
        clear HA
        simp only [spec_l3End.j1] at H
        by_cases c18 : x33_11 = true
        ·subst c18
         rw [if_pos rfl] at H
         obtain rfl := Option.some.inj H
         go_wp2
         go_ret
         exact ⟨sd_, ab18_⟩
        replace c18 := Bool.eq_false_iff.mpr c18
        subst c18
        rw [if_neg (show ¬ (false = true) by decide)] at H
        by_cases c19 : 0 ≤ a1
        ·rw [if_pos c19] at H
         have c19b0 : decide (0 ≤ a1) = true := decide_eq_true c19
         clear c19
         by_cases c20 : a1 < (a0.size : Int)
         ·rw [if_pos c20] at H
          have c20b0 : decide (a1 < (a0.size : Int)) = true := decide_eq_true c20
          clear c20
          by_cases c22 : (bt a0 a1) = 62
          ·rw [if_pos c22] at H
           have c22b0 : ((bt a0 a1) == 62) = true := beq_iff_eq.mpr c22
           have c22b1 : ((bt a0 a1) != 62) = false := bne_eq_false_iff_eq.mpr c22
           clear c22
           obtain rfl := Option.some.inj H
           have p21 : 0 ≤ (a1 : Int) := of_decide_eq_true asm_
           have q21 : a1 < (a0.size : Int) := of_decide_eq_true asm_
           have hx21 := bt_at a0 a1
           replace p21 := eq_true p21
           replace q21 := eq_true q21
           go_wp2
           go_ret
           exact ⟨sd_, ab18_⟩
          rw [if_neg c22] at H
          have c22b0 : ((bt a0 a1) == 62) = false := beq_eq_false_iff_ne.mpr c22
          have c22b1 : ((bt a0 a1) != 62) = true := bne_iff_ne.mpr c22
          obtain rfl := Option.some.inj H
          have p21 : 0 ≤ (a1 : Int) := of_decide_eq_true asm_
          have q21 : a1 < (a0.size : Int) := of_decide_eq_true asm_
          have hx21 := bt_at a0 a1
          replace p21 := eq_true p21
          replace q21 := eq_true q21
          go_wp2
          go_ret
          exact ⟨sd_, ab18_⟩
         rw [if_neg c20] at H
         exact absurd H (by simp)
        rw [if_neg c19] at H
        exact absurd H (by simp)
     rw [if_neg c11] at H
     have c11b0 : (t23 == 4) = false := beq_eq_false_iff_ne.mpr c11
     have c11b1 : (t23 != 4) = true := bne_iff_ne.mpr c11
     obtain rfl := Option.some.inj H
     go_wp2
     go_ret
     exact ⟨sd_, ab18_⟩
  rw [if_neg c4] at H
  exact absurd H (by simp)
 rw [if_neg c3] at H
 exact absurd H (by simp)
theorem spec_TokenValid.mono : ∀ a0 k, LeO (spec_TokenValid.f k a0) (spec_TokenValid.f (k + 1) a0) := by
 intro a0 k
 unfold spec_TokenValid.f
 have m0 := @spec_l3End.mono
 exact mo_
theorem spec_TokenValid.calls (k : Nat) (a0 : ByteArray) (r : Bool) (w : World) (h : spec_TokenValid.f k a0 = some r) :
  Calls Tryz.prog 50 #[.string a0] w fun e w' => e = .returned (.bool r) ∧ Drawn0 w w' := by
 have H : (if a0.toList = ([] : List UInt8) then (some false) else ((spec_l3End.f k a0 0).bind fun t20 => (some (t20 == (a0.size : Int))))) = some r := h
 clear h
 by_cases c2 : a0.toList = ([] : List UInt8)
 ·rw [if_pos c2] at H
  have c2b0 : (a0.toList == ([] : List UInt8)) = true := beq_iff_eq.mpr c2
  have c2b1 : (a0.toList != ([] : List UInt8)) = false := bne_eq_false_iff_eq.mpr c2
  clear c2
  obtain rfl := Option.some.inj H
  go_enter Tryz.func50, Tryz.ntmps50
  go_wp2
  go_ret
  exact ⟨sd_, ab18_⟩
 rw [if_neg c2] at H
 have c2b0 : (a0.toList == ([] : List UInt8)) = false := beq_eq_false_iff_ne.mpr c2
 have c2b1 : (a0.toList != ([] : List UInt8)) = true := bne_iff_ne.mpr c2
 obtain ⟨t20, A3, H⟩ := bsa H
 (try dsimp only at H)
 obtain rfl := Option.some.inj H
 go_enter Tryz.func50, Tryz.ntmps50
 go_wp2_with (first | (go_at_call 75; (with_reducible refine (spec_l3End.calls k a0 0 t20 _ A3.out).mono ?_); rintro e w' ⟨rfl, ⟨nd, rfl⟩⟩))
 go_ret
 exact ⟨sd_, ab18_⟩
theorem spec_TokensText.mono_l : ∀ k, (∀ y0 y1 y2, LeO (spec_TokensText.l0 k y0 y1 y2) (spec_TokensText.l0 (k + 1) y0 y1 y2))
 | 0 => fun _ _ _ r h => by simp [spec_TokensText.l0] at h
 | k + 1 => by
  have ih0 := spec_TokensText.mono_l k
  ·intro y0 y1 y2
   unfold spec_TokensText.l0
   have m0 := @spec_TokenValid.mono
   exact mo_
theorem spec_TokensText.mono : ∀ a0 k, LeO (spec_TokensText.f k a0) (spec_TokensText.f (k + 1) a0) := by
 intro a0 k
 have ih0 := spec_TokensText.mono_l k
 unfold spec_TokensText.f
 have m0 := @spec_TokenValid.mono
 exact mo_
theorem spec_TokensText.calls (k : Nat) (A0 : Option Addr) (c0 : Nat) (l0 : List ByteArray) (r : ByteArray) (w : World) (hr0 : Kd.C Kd.string w A0 l0.length l0) (hc0 : l0.length ≤ c0) (h : spec_TokensText.f k l0 = some r) :
  Calls Tryz.prog 26 #[.slice A0 l0.length c0] w fun e w' => e = .returned (.string r) ∧ Drawn0 w w' := by
 have HR0 := am hr0
 have HC0 := am hc0
 clear hr0 hc0
 have H : (spec_TokensText.l0 k l0 (⟨#[]⟩ : ByteArray) 0) = some r := h
 clear h
 have H' := am H
 clear H
 go_enter Tryz.func26, Tryz.ntmps26
 go_wp2
 go_loopg [3, 4] k (fun kq v3 v4 w' => ∃ (x3_1 : ByteArray) (x4_1 : Int), v3 = .string x3_1 ∧ v4 = .int .i64 x4_1 ∧ Aside0 (spec_TokensText.l0 kq l0 x3_1 x4_1 = some r) ∧ Aside0 (kq ≤ k) ∧ Drawn0 w w')
 case atStart => exact ⟨((⟨#[]⟩ : ByteArray)), (0), sd_, sd_, H', ⟨Nat.le_refl _⟩, ab18_⟩
 case round =>
  clear H'
  obtain ⟨x3_1, x4_1, rfl, rfl, HA, HK1, ⟨m1, rfl⟩⟩ := hrel
  cases gk with
  | zero => exact absurd HA.out (by simp [spec_TokensText.l0])
  | succ k1 =>
   have H := HA.out
   clear HA
   simp only [spec_TokensText.l0] at H
   by_cases c2 : x4_1 < (l0.length : Int)
   ·rw [if_pos c2] at H
    have c2b0 : decide (x4_1 < (l0.length : Int)) = true := decide_eq_true c2
    clear c2
    by_cases c3 : 0 ≤ x4_1
    ·rw [if_pos c3] at H
     have c3b0 : decide (0 ≤ x4_1) = true := decide_eq_true c3
     clear c3
     obtain ⟨t20, A4, H⟩ := bsa H
     (try dsimp only at H)
     by_cases c5 : t20 = true
     ·subst c5
      rw [if_pos rfl] at H
      by_cases c6 : x4_1 > 0
      ·rw [if_pos c6] at H
       have c6b0 : decide (0 < x4_1) = true := decide_eq_true c6
       clear c6
       by_cases c7 : x3_1.size + 1 ≤ 9223372036854775807
       ·rw [if_pos c7] at H
        have c7b0 := eq_true c7
        have c7b1 : decide (x3_1.size + 1 ≤ 9223372036854775807) = true := decide_eq_true c7
        try have c7b2 : (9223372036854775807 < x3_1.size + 1) = False := eq_false (Nat.not_lt.2 c7)
        by_cases c8 : (x3_1 ++ (⟨#[32]⟩ : ByteArray)).size + (rdOf ByteArray.empty l0 x4_1).size ≤ 9223372036854775807
        ·rw [if_pos c8] at H
         have c8b0 := eq_true c8
         have c8b1 : decide ((x3_1 ++ (⟨#[32]⟩ : ByteArray)).size + (rdOf ByteArray.empty l0 x4_1).size ≤ 9223372036854775807) = true := decide_eq_true c8
         try have c8b2 : (9223372036854775807 < (x3_1 ++ (⟨#[32]⟩ : ByteArray)).size + (rdOf ByteArray.empty l0 x4_1).size) = False := eq_false (Nat.not_lt.2 c8)
         have c8y : x3_1.size + 1 + (rdOf ByteArray.empty l0 x4_1).size ≤ 9223372036854775807 := by have h_ := c8; simp only [ByteArray.size_append] at h_; exact h_
         have c8y0 : (9223372036854775807 < x3_1.size + 1 + (rdOf ByteArray.empty l0 x4_1).size) = False := eq_false (by omega)
         have c8y1 : (x3_1.size + 1 + (rdOf ByteArray.empty l0 x4_1).size ≤ 9223372036854775807) = True := eq_true (by omega)
         have H' := am H
         clear H
         have p21 : 0 ≤ (x4_1 : Int) := of_decide_eq_true asm_
         have q21 : x4_1 < (l0.length : Int) := of_decide_eq_true asm_
         obtain ⟨ad21, e21, hx21_0⟩ := Kd.at_string HR0.out x4_1 p21 q21
         cases e21
         replace p21 := eq_true p21
         replace q21 := eq_true q21
         go_wp2_with (first | ((with_reducible refine gate_callee (f := 50) rfl ?_); refine gl_ 15 Tryz.func50 #[.string (rdOf ByteArray.empty l0 x4_1)] ?_; (with_reducible refine (spec_TokenValid.calls k1 (rdOf ByteArray.empty l0 x4_1) true _ A4.out).mono ?_); rintro e w' ⟨rfl, ⟨nd, rfl⟩⟩; refine ⟨_, rfl, ?_⟩; have p22 : 0 ≤ (x4_1 : Int) := of_decide_eq_true asm_; have q22 : x4_1 < (l0.length : Int) := of_decide_eq_true asm_; obtain ⟨ad22, e22, hx22_0⟩ := Kd.at_string HR0.out x4_1 p22 q22; obtain rfl : ad21 = ad22 := (by injection e22); replace p22 := eq_true p22; replace q22 := eq_true q22))
         go_roundg k1
         case measure => have := HK1.out; omega
         case rel => exact ⟨((x3_1 ++ (⟨#[32]⟩ : ByteArray)) ++ (rdOf ByteArray.empty l0 x4_1)), (wrap64 (x4_1 + 1)), sd_, sd_, H', ⟨by have := HK1.out; omega⟩, ab18_⟩
        rw [if_neg c8] at H
        exact absurd H (by simp)
       rw [if_neg c7] at H
       exact absurd H (by simp)
      rw [if_neg c6] at H
      have c6b0 : decide (0 < x4_1) = false := decide_eq_false c6
      clear c6
      by_cases c9 : x3_1.size + (rdOf ByteArray.empty l0 x4_1).size ≤ 9223372036854775807
      ·rw [if_pos c9] at H
       have c9b0 := eq_true c9
       have c9b1 : decide (x3_1.size + (rdOf ByteArray.empty l0 x4_1).size ≤ 9223372036854775807) = true := decide_eq_true c9
       try have c9b2 : (9223372036854775807 < x3_1.size + (rdOf ByteArray.empty l0 x4_1).size) = False := eq_false (Nat.not_lt.2 c9)
       have H' := am H
       clear H
       have p21 : 0 ≤ (x4_1 : Int) := of_decide_eq_true asm_
       have q21 : x4_1 < (l0.length : Int) := of_decide_eq_true asm_
       obtain ⟨ad21, e21, hx21_0⟩ := Kd.at_string HR0.out x4_1 p21 q21
       cases e21
       replace p21 := eq_true p21
       replace q21 := eq_true q21
       go_wp2_with (first | ((with_reducible refine gate_callee (f := 50) rfl ?_); refine gl_ 15 Tryz.func50 #[.string (rdOf ByteArray.empty l0 x4_1)] ?_; (with_reducible refine (spec_TokenValid.calls k1 (rdOf ByteArray.empty l0 x4_1) true _ A4.out).mono ?_); rintro e w' ⟨rfl, ⟨nd, rfl⟩⟩; refine ⟨_, rfl, ?_⟩; have p23 : 0 ≤ (x4_1 : Int) := of_decide_eq_true asm_; have q23 : x4_1 < (l0.length : Int) := of_decide_eq_true asm_; obtain ⟨ad23, e23, hx23_0⟩ := Kd.at_string HR0.out x4_1 p23 q23; obtain rfl : ad21 = ad23 := (by injection e23); replace p23 := eq_true p23; replace q23 := eq_true q23))
       go_roundg k1
       case measure => have := HK1.out; omega
       case rel => exact ⟨(x3_1 ++ (rdOf ByteArray.empty l0 x4_1)), (wrap64 (x4_1 + 1)), sd_, sd_, H', ⟨by have := HK1.out; omega⟩, ab18_⟩
      rw [if_neg c9] at H
      exact absurd H (by simp)
     replace c5 := Bool.eq_false_iff.mpr c5
     subst c5
     rw [if_neg (show ¬ (false = true) by decide)] at H
     obtain rfl := Option.some.inj H
     have p21 : 0 ≤ (x4_1 : Int) := of_decide_eq_true asm_
     have q21 : x4_1 < (l0.length : Int) := of_decide_eq_true asm_
     obtain ⟨ad21, e21, hx21_0⟩ := Kd.at_string HR0.out x4_1 p21 q21
     cases e21
     replace p21 := eq_true p21
     replace q21 := eq_true q21
     go_wp2_with (first | ((with_reducible refine gate_callee (f := 50) rfl ?_); refine gl_ 15 Tryz.func50 #[.string (rdOf ByteArray.empty l0 x4_1)] ?_; (with_reducible refine (spec_TokenValid.calls k1 (rdOf ByteArray.empty l0 x4_1) false _ A4.out).mono ?_); rintro e w' ⟨rfl, ⟨nd, rfl⟩⟩; refine ⟨_, rfl, ?_⟩))
     go_ret
     exact ⟨sd_, ab18_⟩
    rw [if_neg c3] at H
    exact absurd H (by simp)
   rw [if_neg c2] at H
   have c2b0 : decide (x4_1 < (l0.length : Int)) = false := decide_eq_false c2
   clear c2
   obtain rfl := Option.some.inj H
   go_wp2
   go_ret
   exact ⟨sd_, ab18_⟩
theorem spec_ProgramText.mono_l : ∀ k, (∀ y0 y1 y2 y3, LeO (spec_ProgramText.l0 k y0 y1 y2 y3) (spec_ProgramText.l0 (k + 1) y0 y1 y2 y3)) ∧ (∀ y0 y1 y2 y3, LeO (spec_ProgramText.l1 k y0 y1 y2 y3) (spec_ProgramText.l1 (k + 1) y0 y1 y2 y3))
 | 0 => ⟨fun _ _ _ _ r h => by simp [spec_ProgramText.l0] at h, fun _ _ _ _ r h => by simp [spec_ProgramText.l1] at h⟩
 | k + 1 => by
  obtain ⟨ih0, ih1⟩ := spec_ProgramText.mono_l k
  refine ⟨?_, ?_⟩
  ·intro y0 y1 y2 y3
   unfold spec_ProgramText.l0
   have m0 := @spec_ProgramValid.mono
   have m1 := @spec_TokensText.mono
   have m2 := @spec_l13Block.mono
   have m3 := @spec_l6Dec.mono
   exact mo_
  ·intro y0 y1 y2 y3
   unfold spec_ProgramText.l1
   have m0 := @spec_ProgramValid.mono
   have m1 := @spec_TokensText.mono
   have m2 := @spec_l13Block.mono
   have m3 := @spec_l6Dec.mono
   exact mo_
theorem spec_ProgramText.mono : ∀ a0 a1 k, LeO (spec_ProgramText.f k a0 a1) (spec_ProgramText.f (k + 1) a0 a1) := by
 intro a0 a1 k
 obtain ⟨ih0, ih1⟩ := spec_ProgramText.mono_l k
 unfold spec_ProgramText.f
 have m0 := @spec_ProgramValid.mono
 have m1 := @spec_TokensText.mono
 have m2 := @spec_l13Block.mono
 have m3 := @spec_l6Dec.mono
 exact mo_
theorem spec_ProgramText.calls (k : Nat) (A0_0 : Option Addr) (c0_0 : Nat) (l0_0 : List Int) (A0_1 : Option Addr) (c0_1 : Nat) (l0_1 : List (List (S58))) (r : ByteArray) (w : World) (hr0_0 : Kd.C (Kd.int .i64) w A0_0 l0_0.length l0_0) (hc0_0 : l0_0.length ≤ c0_0) (hr0_1 : Kd.C (Kd.slice 58 k58) w A0_1 l0_1.length l0_1) (hc0_1 : l0_1.length ≤ c0_1) (h : spec_ProgramText.f k l0_0 l0_1 = some r) :
  Calls Tryz.prog 9 #[.agg #[.slice A0_0 l0_0.length c0_0, .slice A0_1 l0_1.length c0_1]] w fun e w' => e = .returned (.string r) ∧ Below w.heap.size w w' := by
 have hu26 := Tryz.underlying26
 have HR0_0 := am hr0_0
 have HC0_0 := am hc0_0
 clear hr0_0 hc0_0
 have HR0_1 := am hr0_1
 have HC0_1 := am hc0_1
 clear hr0_1 hc0_1
 have HB := am (Below.refl w.heap.size w)
 have H : ((spec_ProgramValid.f k l0_0 l0_1).bind fun t35 => (if t35 = true then (spec_ProgramText.l0 k (([] : List ByteArray)) 0 l0_0 l0_1) else (some (⟨#[]⟩ : ByteArray)))) = some r := h
 clear h
 obtain ⟨t35, A2, H⟩ := bsa H
 (try dsimp only at H)
 have HH_ := am H
 clear H
 go_enter Tryz.func9, Tryz.ntmps9
 go_upto_region 1 with (first | ((with_reducible refine gate_dst (N := 1) rfl ?_); refine box_event rfl (N := 1) rfl (cs := #[.slice A0_0 l0_0.length c0_0, .slice A0_1 l0_1.length c0_1]) (t := 26) rn_ ?_; intro gb37 hg w4 hbox hb; have BK37 := am (hbox); have GW37 := am ((by rw [hg]; exact (below_size ab2_) : w.heap.size ≤ gb37)); have GE37 := am ((by rw [hg]; exact (below_size ab2_) : w.heap.size ≤ gb37)); replace HB := am (below_step ab2_ hb); clear hb hbox hg; obtain ⟨hcz5_0, hcz5_1, hfz5_0, hfz5_1⟩ := bcf2_ BK37.out))
 have H := HH_.out
 clear HH_
 by_cases c3 : t35 = true
 ·subst c3
  rw [if_pos rfl] at H
  obtain ⟨y38, hy_⟩ : ∃ y_ : List ByteArray, y_ = (([] : List ByteArray)) := ⟨_, rfl⟩
  replace H : (spec_ProgramText.l0 k y38 0 l0_0 l0_1) = some r := rx_
  have Ny38 := am hy_
  clear hy_
  have H' := am H
  clear H
  go_wp2_with (first | ((with_reducible refine gate_callee (f := 23) rfl ?_); refine gl_ 7 Tryz.func23 #[.agg #[.slice A0_0 l0_0.length c0_0, .slice A0_1 l0_1.length c0_1]] ?_; (with_reducible refine (spec_ProgramValid.calls k _ _ l0_0 _ _ l0_1 true _ (aC_ (Kd.C_below HR0_0.out HB.out)) HC0_0.out (aC_ (Kd.C_below HR0_1.out HB.out)) HC0_1.out A2.out).mono ?_); rintro e w6 ⟨rfl, hb⟩; refine ⟨_, rfl, ?_⟩; replace BK37 := am (bbl_ BK37.out hb); replace HB := am (below_step ab37_ hb); (try clear hb)) | ((with_reducible refine gate_dst (N := 9) rfl ?_); refine Kd.R_lit Kd.string _ 9 rfl (N := 9) rfl (xs := ([] : List ByteArray)) (inner := []) (ok := fun _ => True) (okp := fun _ => True) rn_ ?hp (fun _ hk => hk) trivial (Below.refl _ _) (Nat.le_refl _) (by simp) ?_; (case hp => exact (Reps.none _ _)); intro v39 w7 ho8 hb hg_ hnew_; clear hg_ hnew_; (first | rw [← Ny38.out] at ho8 | (simp only [Int.reduceToNat] at ho8; rw [← Ny38.out] at ho8)); have HO40 := am (Kd.R_lower ho8 (below_size ab37_)); replace BK37 := am (bbl_ BK37.out hb); replace HB := am (below_step ab37_ hb); clear hb ho8))
  go_loopg [3, 4] k (fun kq v3 v4 w' => ∃ (x3_1 : List ByteArray) (x4_1 : Int), v4 = .int .i64 x4_1 ∧ Aside0 (spec_ProgramText.l0 kq x3_1 x4_1 l0_0 l0_1 = some r) ∧ Aside0 (kq ≤ k) ∧ Aside0 (Kd.R Kd.string 9 w' w.heap.size (fun _ => True) v3 x3_1) ∧ Aside0 (w'.heap[gb37]? = some (.cells #[(.slice A0_0 l0_0.length c0_0), (.slice A0_1 l0_1.length c0_1)] 26 (0, 0))) ∧ Aside0 (Below w.heap.size w w'))
  case atStart => exact ⟨(y38), (0), sd_, H', ⟨Nat.le_refl _⟩, ⟨aRw_ HO40.out⟩, ⟨by (with_reducible repeat (first | refine blk_drewN ?_ _ | refine blk_drew ?_ | refine blk_alloc ?_ _)); exact BK37.out⟩, ⟨ab37_⟩⟩
  case round =>
   clear H'
   try clear c3
   try clear hcz5_0
   try clear hcz5_1
   try clear hfz5_0
   try clear hfz5_1
   obtain ⟨x3_1, x4_1, rfl, HA, HK1, HO_3, BK37, HB⟩ := hrel
   cases gk with
   | zero => exact absurd HA.out (by simp [spec_ProgramText.l0])
   | succ k1 =>
    have H := HA.out
    clear HA
    simp only [spec_ProgramText.l0] at H
    by_cases c9 : x4_1 < (l0_0.length : Int)
    ·rw [if_pos c9] at H
     have c9b0 : decide (x4_1 < (l0_0.length : Int)) = true := decide_eq_true c9
     clear c9
     by_cases c10 : 0 ≤ x4_1
     ·rw [if_pos c10] at H
      have c10b0 : decide (0 ≤ x4_1) = true := decide_eq_true c10
      clear c10
      obtain ⟨t41, A43, H⟩ := bsm H
      (try dsimp only at H)
      have A11 := am A43
      clear A43
      obtain ⟨y44, hy_⟩ : ∃ y_ : List ByteArray, y_ = (([(⟨#[98, 111, 120]⟩ : ByteArray), t41, (⟨#[59]⟩ : ByteArray)] : List ByteArray)) := ⟨_, rfl⟩
      replace H : (if x3_1.length + y44.length < 8796093022208 then (spec_ProgramText.l0 k1 (x3_1 ++ y44) (wrap64 (x4_1 + 1)) l0_0 l0_1) else (none)) = some r := rx_
      have Ny44 := am hy_
      clear hy_
      by_cases c12 : x3_1.length + y44.length < 8796093022208
      ·rw [if_pos c12] at H
       have LMc12 := am c12
       clear c12
       obtain ⟨y46, hy_⟩ : ∃ y_ : List ByteArray, y_ = (x3_1 ++ y44) := ⟨_, rfl⟩
       replace H : (spec_ProgramText.l0 k1 y46 (wrap64 (x4_1 + 1)) l0_0 l0_1) = some r := rx_
       have Ny46 := am hy_
       clear hy_
       have H' := am H
       clear H
       obtain ⟨hcz13_0, hcz13_1, hfz13_0, hfz13_1⟩ := bcf2_ BK37.out
       have p47 : 0 ≤ (x4_1 : Int) := of_decide_eq_true asm_
       have q47 : x4_1 < (l0_0.length : Int) := of_decide_eq_true asm_
       obtain ⟨ad47, e47, hx47_0⟩ := Kd.at_int HR0_0.out x4_1 p47 q47
       cases e47
       replace hx47_0 := (HB.out.cell (World.block_lt_of_cell? w _ hx47_0)).trans hx47_0
       replace p47 := eq_true p47
       replace q47 := eq_true q47
       go_wp2_with (first | ((with_reducible refine gate_callee (f := 24) rfl ?_); refine gl_ 23 Tryz.func24 #[.int .i64 (rd l0_0 x4_1)] ?_; (with_reducible refine (spec_l6Dec.calls k1 (rd l0_0 x4_1) t41 _ A11.out).mono ?_); rintro e w14 ⟨rfl, hb⟩; refine ⟨_, rfl, ?_⟩; replace HO_3 := am (Kd.R_below (aR_ HO_3.out) hb); replace BK37 := am (bbl_ BK37.out hb); replace HB := am (below_step ab37_ hb); (try clear hb)) | ((with_reducible refine gate_dst (N := 24) rfl ?_); refine Kd.R_lit Kd.string _ 9 rfl (N := 24) rfl (xs := ([(⟨#[98, 111, 120]⟩ : ByteArray), t41, (⟨#[59]⟩ : ByteArray)] : List ByteArray)) (inner := [.string (⟨#[98, 111, 120]⟩ : ByteArray), .string t41, .string (⟨#[59]⟩ : ByteArray)]) (ok := fun _ => True) (okp := fun _ => True) rn_ ?hp (fun _ hk => hk) trivial (Below.refl _ _) (Nat.le_refl _) (by simp) ?_; (case hp => exact (Reps.one (show Kd.M Kd.string _ _ _ (⟨#[98, 111, 120]⟩ : ByteArray) [.string (⟨#[98, 111, 120]⟩ : ByteArray)] from rfl) (Reps.one (show Kd.M Kd.string _ _ _ t41 [.string t41] from rfl) (Reps.one (show Kd.M Kd.string _ _ _ (⟨#[59]⟩ : ByteArray) [.string (⟨#[59]⟩ : ByteArray)] from rfl) (Reps.none _ _))))); intro v48 w15 ho16 hb hg_ hnew_; clear hg_ hnew_; (first | rw [← Ny44.out] at ho16 | (simp only [Int.reduceToNat] at ho16; rw [← Ny44.out] at ho16)); have HO49 := am (Kd.R_lower (Kd.R_new' ho16 (Kd.R_lt (aR_ HO_3.out))) (below_size ab37_)); replace HO_3 := am (Kd.R_elder' (aR_ HO_3.out) (Kd.R_base ho16) hb); replace BK37 := am (bbl_ BK37.out hb); replace HB := am (below_step ab37_ hb); clear hb ho16; obtain ⟨Ao18, co18, eo18⟩ := Kd.R_slice HO49.out; subst eo18) | ((with_reducible refine gate_builtin (b := .append) (xs := #[.tmp 17, .tmp 24]) rfl ?_); at_builtin; refine Kd.R_append_rows Kd.string (w0 := w) w.heap.size rfl (.tmp 17) (.tmp 24) 29 9 (.string ⟨#[]⟩) 16 rfl Tryz.underlying29 info9 rfl (by decide) (by omega) u3 x3_1 y44 _ _ _ (fun k_ => some k_ ≠ (.slice Ao18 y44.length co18 : Value).ownBlock) (fun _ => False) rfl rfl ?aO ?aR (fun _ _ h => h) (fun _ h => h.elim) ?aF ?aB ?aS ?aL ?_; (case aR => repeat (first | exact (Kd.R_reads' HO49.out).2.2 | (with_reducible refine Kd.C_alloc ?_ _) | (with_reducible refine Kd.C_drewN ?_ _) | (with_reducible refine Kd.C_drew ?_))); (case aB => exact ab37_); (case aF => exact (fun k_ hk => Kd.fresh' (Kd.R_lt (aR_ HO49.out)) k_ hk)); (case aO => exact (aRw_ (Kd.R_mono HO_3.out (fun _ hk => hk.2)))); (case aS => exact (below_size ab37_)); (case aL => have := LMc12.out; omega); intro v50 w17 ho hb hg hat; rw [← Ny46.out] at ho; replace BK37 := am (blk_grown (g := gb37) (o := .cells #[.slice (some ad47) l0_0.length c0_0, .slice A0_1 l0_1.length c0_1] 26 (0, 0)) (aG_ BK37.out) hg (Kd.R_ne HO_3.out BK37.out (by decide))); replace HO49 := am (Kd.R_after (ok := (fun _ => True)) (aR_ HO49.out) hg hat); replace HB := am (hb); have HO51 := am (ho); clear HO_3 ho hb hg hat))
       go_roundg k1
       case measure => have := HK1.out; omega
       case rel => exact ⟨(y46), (wrap64 (x4_1 + 1)), sd_, H', ⟨by have := HK1.out; omega⟩, ⟨aRw_ (Kd.R_mono HO51.out (fun _ hk => trivial))⟩, ⟨by (with_reducible repeat (first | refine blk_drewN ?_ _ | refine blk_drew ?_ | refine blk_alloc ?_ _)); exact BK37.out⟩, ⟨ab37_⟩⟩
      rw [if_neg c12] at H
      exact absurd H (by simp)
     rw [if_neg c10] at H
     exact absurd H (by simp)
    rw [if_neg c9] at H
    have c9b0 : decide (x4_1 < (l0_0.length : Int)) = false := decide_eq_false c9
    clear c9
    have H' := am H
    clear H
    obtain ⟨hcz19_0, hcz19_1, hfz19_0, hfz19_1⟩ := bcf2_ BK37.out
    go_wp2
    go_loopg [3, 5] k1 (fun kq v3 v5 w' => ∃ (x3_2 : List ByteArray) (x5_2 : Int), v5 = .int .i64 x5_2 ∧ Aside0 (spec_ProgramText.l1 kq x3_2 x5_2 l0_0 l0_1 = some r) ∧ Aside0 (kq ≤ k1) ∧ Aside0 (Kd.R Kd.string 9 w' w.heap.size (fun _ => True) v3 x3_2) ∧ Aside0 (w'.heap[gb37]? = some (.cells #[(.slice A0_0 l0_0.length c0_0), (.slice A0_1 l0_1.length c0_1)] 26 (0, 0))) ∧ Aside0 (Below w.heap.size w w'))
    case atStart => exact ⟨(x3_1), (0), sd_, H', ⟨Nat.le_refl _⟩, ⟨aRw_ HO_3.out⟩, ⟨by (with_reducible repeat (first | refine blk_drewN ?_ _ | refine blk_drew ?_ | refine blk_alloc ?_ _)); exact BK37.out⟩, ⟨ab37_⟩⟩
    case round =>
     clear H'
     try clear c3
     try clear c9
     try clear c9b0
     try clear hcz19_0
     try clear hcz19_1
     try clear hcz5_0
     try clear hcz5_1
     try clear hfz19_0
     try clear hfz19_1
     try clear hfz5_0
     try clear hfz5_1
     obtain ⟨x3_2, x5_2, rfl, HA, HK2, HO_3, BK37, HB⟩ := hrel
     cases gk with
     | zero => exact absurd HA.out (by simp [spec_ProgramText.l1])
     | succ k2 =>
      have H := HA.out
      clear HA
      simp only [spec_ProgramText.l1] at H
      by_cases c20 : x5_2 < (l0_1.length : Int)
      ·rw [if_pos c20] at H
       have c20b0 : decide (x5_2 < (l0_1.length : Int)) = true := decide_eq_true c20
       clear c20
       by_cases c21 : x3_2.length < 8796093022208
       ·rw [if_pos c21] at H
        have LMc21 := am c21
        clear c21
        obtain ⟨y52, hy_⟩ : ∃ y_ : List ByteArray, y_ = (x3_2 ++ [(⟨#[116, 97, 115, 107]⟩ : ByteArray)]) := ⟨_, rfl⟩
        replace H : (if 0 ≤ x5_2 then ((spec_l13Block.f k2 (rd_L4 l0_1 x5_2)).bind fun t53 => (if y52.length + t53.length < 8796093022208 then (spec_ProgramText.l1 k2 (y52 ++ t53) (wrap64 (x5_2 + 1)) l0_0 l0_1) else (none))) else (none)) = some r := rx_
        have Ny52 := am hy_
        clear hy_
        by_cases c22 : 0 ≤ x5_2
        ·rw [if_pos c22] at H
         have c22b0 : decide (0 ≤ x5_2) = true := decide_eq_true c22
         clear c22
         obtain ⟨t53, A54, H⟩ := bsm H
         (try dsimp only at H)
         have A23 := am A54
         clear A54
         by_cases c24 : y52.length + t53.length < 8796093022208
         ·rw [if_pos c24] at H
          have LMc24 := am c24
          clear c24
          obtain ⟨y55, hy_⟩ : ∃ y_ : List ByteArray, y_ = (y52 ++ t53) := ⟨_, rfl⟩
          replace H : (spec_ProgramText.l1 k2 y55 (wrap64 (x5_2 + 1)) l0_0 l0_1) = some r := rx_
          have Ny55 := am hy_
          clear hy_
          have H' := am H
          clear H
          obtain ⟨hcz25_0, hcz25_1, hfz25_0, hfz25_1⟩ := bcf2_ BK37.out
          go_wp2_with (first | ((with_reducible refine gate_builtin (b := .append) (xs := #[.tmp 33, .tmp 34]) rfl ?_); at_builtin; refine Kd.R_append Kd.string (w0 := w) w.heap.size rfl (.tmp 33) (.tmp 34) 29 9 (.string ⟨#[]⟩) 16 rfl Tryz.underlying29 info9 rfl (by decide) (by omega) u3 x3_2 (⟨#[116, 97, 115, 107]⟩ : ByteArray) [.string (⟨#[116, 97, 115, 107]⟩ : ByteArray)] (fun _ => True) (fun _ => False) rfl rfl ?aP (fun _ hk => hk.elim) ?aF ?aO ?aB ?aS ?aL ?_; (case aP => exact rfl); (case aB => exact ab37_); (case aF => exact (fun _ _ => trivial)); (case aO => exact (aR_ HO_3.out)); (case aS => exact (below_size ab37_)); (case aL => have := LMc21.out; omega); intro v56 w26 ho hb hg hat; rw [← Ny52.out] at ho; replace BK37 := am (blk_grown (g := gb37) (o := .cells #[.slice A0_0 l0_0.length c0_0, .slice A0_1 l0_1.length c0_1] 26 (0, 0)) (aG_ BK37.out) hg (Kd.R_ne HO_3.out BK37.out (by decide))); replace HB := am (hb); have HO57 := am (ho); clear HO_3 ho hb hg hat; obtain ⟨hcz27_0, hcz27_1, hfz27_0, hfz27_1⟩ := bcf2_ BK37.out; have p60 : 0 ≤ (x5_2 : Int) := of_decide_eq_true asm_; have q60 : x5_2 < (l0_1.length : Int) := of_decide_eq_true asm_; obtain ⟨ad60, A60_0, c60_0, e60, hx60_0, hl60_0, hi60_0⟩ := at_L4 HR0_1.out x5_2 p60 q60; cases e60; replace hx60_0 := (HB.out.cell (World.block_lt_of_cell? w _ hx60_0)).trans hx60_0; have HR60_0 := am hi60_0; have HC60_0 := am hl60_0; clear hi60_0 hl60_0; replace p60 := eq_true p60; replace q60 := eq_true q60) | ((with_reducible refine gate_callee (f := 25) rfl ?_); refine gl_ 42 Tryz.func25 #[.slice A60_0 (rd_L4 l0_1 x5_2).length c60_0] ?_; (with_reducible refine (spec_l13Block.calls k2 _ _ (rd_L4 l0_1 x5_2) t53 _ (aC_ (Kd.C_below HR60_0.out HB.out)) HC60_0.out A23.out).mono ?_); rintro e w28 ⟨v61, rfl, ho0, hb⟩; refine ⟨_, rfl, ?_⟩; have HO62 := am (Kd.R_lower (Kd.R_new' ho0 (Kd.R_lt (aR_ HO57.out))) (below_size ab37_)); replace HO57 := am (Kd.R_elder' (aR_ HO57.out) (Kd.R_base ho0) hb); replace BK37 := am (bbl_ BK37.out hb); replace HB := am (below_step ab37_ hb); (try clear hb); (try clear ho0); obtain ⟨Ao30, co30, eo30⟩ := Kd.R_slice HO62.out; subst eo30) | ((with_reducible refine gate_builtin (b := .append) (xs := #[.tmp 36, .tmp 42]) rfl ?_); at_builtin; refine Kd.R_append_rows Kd.string (w0 := w) w.heap.size rfl (.tmp 36) (.tmp 42) 29 9 (.string ⟨#[]⟩) 16 rfl Tryz.underlying29 info9 rfl (by decide) (by omega) v56 y52 t53 _ _ _ (fun k_ => some k_ ≠ (.slice Ao30 t53.length co30 : Value).ownBlock) (fun _ => False) rfl rfl ?aO ?aR (fun _ _ h => h) (fun _ h => h.elim) ?aF ?aB ?aS ?aL ?_; (case aR => repeat (first | exact (Kd.R_reads' HO62.out).2.2 | (with_reducible refine Kd.C_alloc ?_ _) | (with_reducible refine Kd.C_drewN ?_ _) | (with_reducible refine Kd.C_drew ?_))); (case aB => exact ab37_); (case aF => exact (fun k_ hk => Kd.fresh' (Kd.R_lt (aR_ HO62.out)) k_ hk)); (case aO => exact (aRw_ (Kd.R_mono HO57.out (fun _ hk => hk.2)))); (case aS => exact (below_size ab37_)); (case aL => have := LMc24.out; omega); intro v63 w29 ho hb hg hat; rw [← Ny55.out] at ho; replace BK37 := am (blk_grown (g := gb37) (o := .cells #[.slice A0_0 l0_0.length c0_0, .slice (some ad60) l0_1.length c0_1] 26 (0, 0)) (aG_ BK37.out) hg (Kd.R_ne HO57.out BK37.out (by decide))); replace HO62 := am (Kd.R_after (ok := (fun _ => True)) (aR_ HO62.out) hg hat); replace HB := am (hb); have HO65 := am (ho); clear HO57 ho hb hg hat))
          go_roundg k2
          case measure => have := HK1.out; have := HK2.out; omega
          case rel => exact ⟨(y55), (wrap64 (x5_2 + 1)), sd_, H', ⟨by have := HK1.out; have := HK2.out; omega⟩, ⟨aRw_ (Kd.R_mono HO65.out (fun _ hk => trivial))⟩, ⟨by (with_reducible repeat (first | refine blk_drewN ?_ _ | refine blk_drew ?_ | refine blk_alloc ?_ _)); exact BK37.out⟩, ⟨ab37_⟩⟩
         rw [if_neg c24] at H
         exact absurd H (by simp)
        rw [if_neg c22] at H
        exact absurd H (by simp)
       rw [if_neg c21] at H
       exact absurd H (by simp)
      rw [if_neg c20] at H
      have c20b0 : decide (x5_2 < (l0_1.length : Int)) = false := decide_eq_false c20
      clear c20
      obtain ⟨t66, A67, H⟩ := bsm H
      (try dsimp only at H)
      have A31 := am A67
      clear A67
      obtain rfl := Option.some.inj H
      obtain ⟨hcz32_0, hcz32_1, hfz32_0, hfz32_1⟩ := bcf2_ BK37.out
      obtain ⟨Ao33, co33, eo33⟩ := Kd.R_slice HO_3.out
      subst eo33
      go_wp2_with (first | ((with_reducible refine gate_callee (f := 26) rfl ?_); refine gl_ 45 Tryz.func26 #[.slice Ao33 x3_2.length co33] ?_; (with_reducible refine (spec_TokensText.calls k2 _ _ x3_2 t66 _ (aC_ (Kd.R_reads' HO_3.out).2.2) (Kd.R_reads' HO_3.out).2.1 A31.out).mono ?_); rintro e w' ⟨rfl, ⟨nd, rfl⟩⟩; refine ⟨_, rfl, ?_⟩))
      go_ret
      exact ⟨rr_, ab37_⟩
 replace c3 := Bool.eq_false_iff.mpr c3
 subst c3
 rw [if_neg (show ¬ (false = true) by decide)] at H
 obtain rfl := Option.some.inj H
 go_wp2_with (first | ((with_reducible refine gate_callee (f := 23) rfl ?_); refine gl_ 7 Tryz.func23 #[.agg #[.slice A0_0 l0_0.length c0_0, .slice A0_1 l0_1.length c0_1]] ?_; (with_reducible refine (spec_ProgramValid.calls k _ _ l0_0 _ _ l0_1 false _ (aC_ (Kd.C_below HR0_0.out HB.out)) HC0_0.out (aC_ (Kd.C_below HR0_1.out HB.out)) HC0_1.out A2.out).mono ?_); rintro e w36 ⟨rfl, hb⟩; refine ⟨_, rfl, ?_⟩; replace BK37 := am (bbl_ BK37.out hb); replace HB := am (below_step ab37_ hb); (try clear hb)))
 go_ret
 exact ⟨rr_, ab37_⟩
theorem laws_szIntS.calls (A0 : Option Addr) (c0 : Nat) (l0 : List Int) (a1 : Int) (r : Int) (w : World) (hr0 : Kd.C (Kd.int .i64) w A0 l0.length l0) (hc0 : l0.length ≤ c0) (h : laws_szIntS.f l0 a1 = some r) :
  Calls Tryz.prog 28 #[.slice A0 l0.length c0, .int .i64 a1] w fun e w' => e = .returned (.int .i64 r) ∧ Drawn0 w w' := by
 have HR0 := am hr0
 have HC0 := am hc0
 clear hr0 hc0
 have H : (if (wrap64 (a1 - (l0.length : Int))) < 0 then (some (-1)) else (some (wrap64 (a1 - (l0.length : Int))))) = some r := h
 clear h
 by_cases c3 : (wrap64 (a1 - (l0.length : Int))) < 0
 ·rw [if_pos c3] at H
  have c3b0 : decide ((wrap64 (a1 - (l0.length : Int))) < 0) = true := decide_eq_true c3
  clear c3
  obtain rfl := Option.some.inj H
  go_enter Tryz.func28, Tryz.ntmps28
  go_wp2
  go_ret
  exact ⟨sd_, ab18_⟩
 rw [if_neg c3] at H
 have c3b0 : decide ((wrap64 (a1 - (l0.length : Int))) < 0) = false := decide_eq_false c3
 clear c3
 obtain rfl := Option.some.inj H
 go_enter Tryz.func28, Tryz.ntmps28
 go_wp2
 go_ret
 exact ⟨sd_, ab18_⟩
theorem laws_szExprS.mono_all : ∀ k, (∀ y0 y1, LeO (laws_szExprS.f k y0 y1) (laws_szExprS.f (k + 1) y0 y1)) ∧ (∀ y0 y1 y2, LeO (laws_szExprS.l0 k y0 y1 y2) (laws_szExprS.l0 (k + 1) y0 y1 y2)) ∧ (∀ y0 y1 y2 y3, LeO (laws_szExpr.f k y0 y1 y2 y3) (laws_szExpr.f (k + 1) y0 y1 y2 y3))
 | 0 => ⟨fun _ _ r h => by simp [laws_szExprS.f] at h, fun _ _ _ r h => by simp [laws_szExprS.l0] at h, fun _ _ _ _ r h => by simp [laws_szExpr.f] at h⟩
 | k + 1 => by
  obtain ⟨ih0, ih1, ih2⟩ := laws_szExprS.mono_all k
  refine ⟨?_, ?_, ?_⟩
  ·intro y0 y1
   unfold laws_szExprS.f
   exact mo_
  ·intro y0 y1 y2
   unfold laws_szExprS.l0
   exact mo_
  ·intro y0 y1 y2 y3
   unfold laws_szExpr.f
   exact mo_
theorem laws_szExprS.mono : ∀ a0 a1 k, LeO (laws_szExprS.f k a0 a1) (laws_szExprS.f (k + 1) a0 a1) := by
 intro a0 a1 k
 obtain ⟨ih0, ih1, ih2⟩ := laws_szExprS.mono_all k
 exact ih0 a0 a1
theorem laws_szExpr.mono : ∀ a0 a1 a2 a3 k, LeO (laws_szExpr.f k a0 a1 a2 a3) (laws_szExpr.f (k + 1) a0 a1 a2 a3) := by
 intro a0 a1 a2 a3 k
 obtain ⟨ih0, ih1, ih2⟩ := laws_szExprS.mono_all k
 exact ih2 a0 a1 a2 a3
abbrev laws_szExprS.CallsAt (k : Nat) : Prop := ∀ (A0 : Option Addr) (c0 : Nat) (l0 : List (S111)) (a1 : Int) (r : Int) (w : World) (hr0 : Kd.C k111 w A0 l0.length l0) (hc0 : l0.length ≤ c0) (h : laws_szExprS.f k l0 a1 = some r),
  Calls Tryz.prog 123 #[.slice A0 l0.length c0, .int .i64 a1] w fun e w' => e = .returned (.int .i64 r) ∧ Below w.heap.size w w'
abbrev laws_szExpr.CallsAt (k : Nat) : Prop := ∀ (a0_0 : Int) (a0_1 : Int) (A0_2 : Option Addr) (c0_2 : Nat) (l0_2 : List (S111)) (a1 : Int) (r : Int) (w : World) (hr0_2 : Kd.C k111 w A0_2 l0_2.length l0_2) (hc0_2 : l0_2.length ≤ c0_2) (h : laws_szExpr.f k a0_0 a0_1 l0_2 a1 = some r),
  Calls Tryz.prog 102 #[.agg #[.int .i64 a0_0, .int .i64 a0_1, .slice A0_2 l0_2.length c0_2], .int .i64 a1] w fun e w' => e = .returned (.int .i64 r) ∧ Below w.heap.size w w'
theorem laws_szStmt.mono_all : ∀ k, (∀ y0 y1 y2 y3 y4 y5 y6 y7 y8, LeO (laws_szStmt.f k y0 y1 y2 y3 y4 y5 y6 y7 y8) (laws_szStmt.f (k + 1) y0 y1 y2 y3 y4 y5 y6 y7 y8)) ∧ (∀ y0 y1, LeO (laws_szStmtS.f k y0 y1) (laws_szStmtS.f (k + 1) y0 y1)) ∧ (∀ y0 y1 y2, LeO (laws_szStmtS.l0 k y0 y1 y2) (laws_szStmtS.l0 (k + 1) y0 y1 y2))
 | 0 => ⟨fun _ _ _ _ _ _ _ _ _ r h => by simp [laws_szStmt.f] at h, fun _ _ r h => by simp [laws_szStmtS.f] at h, fun _ _ _ r h => by simp [laws_szStmtS.l0] at h⟩
 | k + 1 => by
  obtain ⟨ih0, ih1, ih2⟩ := laws_szStmt.mono_all k
  refine ⟨?_, ?_, ?_⟩
  ·intro y0 y1 y2 y3 y4 y5 y6 y7 y8
   unfold laws_szStmt.f
   have m0 := @laws_szExpr.mono
   exact mo_
  ·intro y0 y1
   unfold laws_szStmtS.f
   have m0 := @laws_szExpr.mono
   exact mo_
  ·intro y0 y1 y2
   unfold laws_szStmtS.l0
   have m0 := @laws_szExpr.mono
   exact mo_
theorem laws_szStmt.mono : ∀ a0 a1 a2 a3 a4 a5 a6 a7 a8 k, LeO (laws_szStmt.f k a0 a1 a2 a3 a4 a5 a6 a7 a8) (laws_szStmt.f (k + 1) a0 a1 a2 a3 a4 a5 a6 a7 a8) := by
 intro a0 a1 a2 a3 a4 a5 a6 a7 a8 k
 obtain ⟨ih0, ih1, ih2⟩ := laws_szStmt.mono_all k
 exact ih0 a0 a1 a2 a3 a4 a5 a6 a7 a8
theorem laws_szStmtS.mono : ∀ a0 a1 k, LeO (laws_szStmtS.f k a0 a1) (laws_szStmtS.f (k + 1) a0 a1) := by
 intro a0 a1 k
 obtain ⟨ih0, ih1, ih2⟩ := laws_szStmt.mono_all k
 exact ih1 a0 a1
abbrev laws_szStmt.CallsAt (k : Nat) : Prop := ∀ (a0_0 : Int) (a0_1 : Int) (a0_2 : Int) (a0_3 : Int) (a0_4 : Int) (A0_5 : Option Addr) (c0_5 : Nat) (l0_5 : List (S111)) (A0_6 : Option Addr) (c0_6 : Nat) (l0_6 : List (S113)) (A0_7 : Option Addr) (c0_7 : Nat) (l0_7 : List (S113)) (a1 : Int) (r : Int) (w : World) (hr0_5 : Kd.C k111 w A0_5 l0_5.length l0_5) (hc0_5 : l0_5.length ≤ c0_5) (hr0_6 : Kd.C k113 w A0_6 l0_6.length l0_6) (hc0_6 : l0_6.length ≤ c0_6) (hr0_7 : Kd.C k113 w A0_7 l0_7.length l0_7) (hc0_7 : l0_7.length ≤ c0_7) (h : laws_szStmt.f k a0_0 a0_1 a0_2 a0_3 a0_4 l0_5 l0_6 l0_7 a1 = some r),
  Calls Tryz.prog 78 #[.agg #[.int .i64 a0_0, .int .i64 a0_1, .int .i64 a0_2, .int .i64 a0_3, .int .i64 a0_4, .slice A0_5 l0_5.length c0_5, .slice A0_6 l0_6.length c0_6, .slice A0_7 l0_7.length c0_7], .int .i64 a1] w fun e w' => e = .returned (.int .i64 r) ∧ Below w.heap.size w w'
abbrev laws_szStmtS.CallsAt (k : Nat) : Prop := ∀ (A0 : Option Addr) (c0 : Nat) (l0 : List (S113)) (a1 : Int) (r : Int) (w : World) (hr0 : Kd.C k113 w A0 l0.length l0) (hc0 : l0.length ≤ c0) (h : laws_szStmtS.f k l0 a1 = some r),
  Calls Tryz.prog 55 #[.slice A0 l0.length c0, .int .i64 a1] w fun e w' => e = .returned (.int .i64 r) ∧ Below w.heap.size w w'
theorem laws_szExprS.step (k : Nat) (ih_laws_szExprS : ∀ m, m < k → laws_szExprS.CallsAt m) (ih_laws_szExpr : ∀ m, m < k → laws_szExpr.CallsAt m) : laws_szExprS.CallsAt k := by
 intro A0 c0 l0 a1 r w hr0 hc0 h
 cases k with
 | zero => exact absurd h (by simp [laws_szExprS.f])
 | succ k =>
 simp only [laws_szExprS.f] at h
 have hu20 := Tryz.underlying111
 have HR0 := am hr0
 have HC0 := am hc0
 clear hr0 hc0
 have HB := am (Below.refl w.heap.size w)
 have H : (if (wrap64 (a1 - (l0.length : Int))) < 0 then (some (-1)) else (laws_szExprS.l0 k l0 (wrap64 (a1 - (l0.length : Int))) 0)) = some r := h
 clear h
 by_cases c3 : (wrap64 (a1 - (l0.length : Int))) < 0
 ·rw [if_pos c3] at H
  have c3b0 : decide ((wrap64 (a1 - (l0.length : Int))) < 0) = true := decide_eq_true c3
  clear c3
  obtain rfl := Option.some.inj H
  go_enter Tryz.func123, Tryz.ntmps123
  go_wp2
  go_ret
  exact ⟨rr_, ab2_⟩
 rw [if_neg c3] at H
 have c3b0 : decide ((wrap64 (a1 - (l0.length : Int))) < 0) = false := decide_eq_false c3
 clear c3
 have H' := am H
 clear H
 go_enter Tryz.func123, Tryz.ntmps123
 go_wp2
 go_loopg [1, 5] k (fun kq v1 v5 w' => ∃ (x1_1 : Int) (x5_1 : Int), v1 = .int .i64 x1_1 ∧ v5 = .int .i64 x5_1 ∧ Aside0 (laws_szExprS.l0 kq l0 x1_1 x5_1 = some r) ∧ Aside0 (kq ≤ k) ∧ Aside0 (Below w.heap.size w w'))
 case atStart => exact ⟨(wrap64 (a1 - (l0.length : Int))), (0), sd_, sd_, H', ⟨Nat.le_refl _⟩, ⟨ab2_⟩⟩
 case round =>
  clear H'
  try clear c3
  try clear c3b0
  obtain ⟨x1_1, x5_1, rfl, rfl, HA, HK1, HB⟩ := hrel
  cases gk with
  | zero => exact absurd HA.out (by simp [laws_szExprS.l0])
  | succ k1 =>
   have H := HA.out
   clear HA
   simp only [laws_szExprS.l0] at H
   by_cases c4 : x5_1 < (l0.length : Int)
   ·rw [if_pos c4] at H
    have c4b0 : decide (x5_1 < (l0.length : Int)) = true := decide_eq_true c4
    clear c4
    by_cases c5 : 0 ≤ x5_1
    ·rw [if_pos c5] at H
     have c5b0 : decide (0 ≤ x5_1) = true := decide_eq_true c5
     clear c5
     obtain ⟨t21, A6, H⟩ := bsa H
     (try dsimp only at H)
     by_cases c7 : t21 < 0
     ·rw [if_pos c7] at H
      have c7b0 : decide (t21 < 0) = true := decide_eq_true c7
      clear c7
      obtain rfl := Option.some.inj H
      have p22 : 0 ≤ (x5_1 : Int) := of_decide_eq_true asm_
      have q22 : x5_1 < (l0.length : Int) := of_decide_eq_true asm_
      obtain ⟨ad22, A22_2, c22_2, e22, hx22_0, hx22_1, hx22_2, hl22_2, hi22_2⟩ := at_T111 HR0.out x5_1 p22 q22
      cases e22
      replace hx22_0 := (HB.out.cell (World.block_lt_of_cell? w _ hx22_0)).trans hx22_0
      replace hx22_1 := (HB.out.cell (World.block_lt_of_cell? w _ hx22_1)).trans hx22_1
      replace hx22_2 := (HB.out.cell (World.block_lt_of_cell? w _ hx22_2)).trans hx22_2
      have HR22_2 := am hi22_2
      have HC22_2 := am hl22_2
      clear hi22_2 hl22_2
      replace p22 := eq_true p22
      replace q22 := eq_true q22
      go_wp2_with (first | ((with_reducible refine gate_callee (f := 102) rfl ?_); refine gl_ 23 Tryz.func102 #[.agg #[.int .i64 ((rd_T111 l0 x5_1).f0), .int .i64 ((rd_T111 l0 x5_1).f1), .slice A22_2 ((rd_T111 l0 x5_1).f2).length c22_2], .int .i64 x1_1] ?_; (with_reducible refine (ih_laws_szExpr k1 (by have := HK1.out; omega) ((rd_T111 l0 x5_1).f0) ((rd_T111 l0 x5_1).f1) _ _ ((rd_T111 l0 x5_1).f2) x1_1 t21 _ (aC_ (Kd.C_below HR22_2.out HB.out)) HC22_2.out A6.out).mono ?_); rintro e w8 ⟨rfl, hb⟩; refine ⟨_, rfl, ?_⟩; replace HB := am (below_step ab2_ hb); (try clear hb)))
      go_ret
      exact ⟨rr_, ab2_⟩
     rw [if_neg c7] at H
     have c7b0 : decide (t21 < 0) = false := decide_eq_false c7
     clear c7
     have H' := am H
     clear H
     have p22 : 0 ≤ (x5_1 : Int) := of_decide_eq_true asm_
     have q22 : x5_1 < (l0.length : Int) := of_decide_eq_true asm_
     obtain ⟨ad22, A22_2, c22_2, e22, hx22_0, hx22_1, hx22_2, hl22_2, hi22_2⟩ := at_T111 HR0.out x5_1 p22 q22
     cases e22
     replace hx22_0 := (HB.out.cell (World.block_lt_of_cell? w _ hx22_0)).trans hx22_0
     replace hx22_1 := (HB.out.cell (World.block_lt_of_cell? w _ hx22_1)).trans hx22_1
     replace hx22_2 := (HB.out.cell (World.block_lt_of_cell? w _ hx22_2)).trans hx22_2
     have HR22_2 := am hi22_2
     have HC22_2 := am hl22_2
     clear hi22_2 hl22_2
     replace p22 := eq_true p22
     replace q22 := eq_true q22
     go_wp2_with (first | ((with_reducible refine gate_callee (f := 102) rfl ?_); refine gl_ 23 Tryz.func102 #[.agg #[.int .i64 ((rd_T111 l0 x5_1).f0), .int .i64 ((rd_T111 l0 x5_1).f1), .slice A22_2 ((rd_T111 l0 x5_1).f2).length c22_2], .int .i64 x1_1] ?_; (with_reducible refine (ih_laws_szExpr k1 (by have := HK1.out; omega) ((rd_T111 l0 x5_1).f0) ((rd_T111 l0 x5_1).f1) _ _ ((rd_T111 l0 x5_1).f2) x1_1 t21 _ (aC_ (Kd.C_below HR22_2.out HB.out)) HC22_2.out A6.out).mono ?_); rintro e w9 ⟨rfl, hb⟩; refine ⟨_, rfl, ?_⟩; replace HB := am (below_step ab2_ hb); (try clear hb)))
     go_roundg k1
     case measure => have := HK1.out; omega
     case rel => exact ⟨(t21), (wrap64 (x5_1 + 1)), sd_, sd_, H', ⟨by have := HK1.out; omega⟩, ⟨ab2_⟩⟩
    rw [if_neg c5] at H
    exact absurd H (by simp)
   rw [if_neg c4] at H
   have c4b0 : decide (x5_1 < (l0.length : Int)) = false := decide_eq_false c4
   clear c4
   obtain rfl := Option.some.inj H
   go_wp2
   go_ret
   exact ⟨rr_, ab2_⟩
theorem laws_szExpr.step (k : Nat) (ih_laws_szExprS : ∀ m, m < k → laws_szExprS.CallsAt m) (ih_laws_szExpr : ∀ m, m < k → laws_szExpr.CallsAt m) : laws_szExpr.CallsAt k := by
 intro a0_0 a0_1 A0_2 c0_2 l0_2 a1 r w hr0_2 hc0_2 h
 cases k with
 | zero => exact absurd h (by simp [laws_szExpr.f])
 | succ k =>
 simp only [laws_szExpr.f] at h
 have hu20 := Tryz.underlying111
 have HR0_2 := am hr0_2
 have HC0_2 := am hc0_2
 clear hr0_2 hc0_2
 have HB := am (Below.refl w.heap.size w)
 have H : ((laws_szExprS.f k l0_2 a1).bind fun t21 => (if t21 < 0 then (some (-1)) else (some t21))) = some r := h
 clear h
 obtain ⟨t21, A3, H⟩ := bsa H
 (try dsimp only at H)
 have HH_ := am H
 clear H
 go_enter Tryz.func102, Tryz.ntmps102
 go_upto_region 2 with (first | ((with_reducible refine gate_dst (N := 2) rfl ?_); refine box_event rfl (N := 2) rfl (cs := #[.int .i64 a0_0, .int .i64 a0_1, .slice A0_2 l0_2.length c0_2]) (t := 111) rn_ ?_; intro gb22 hg w5 hbox hb; have BK22 := am (hbox); have GW22 := am ((by rw [hg]; exact (below_size ab2_) : w.heap.size ≤ gb22)); have GE22 := am ((by rw [hg]; exact (below_size ab2_) : w.heap.size ≤ gb22)); replace HB := am (below_step ab2_ hb); clear hb hbox hg; obtain ⟨hcz6_0, hcz6_1, hcz6_2, hfz6_0, hfz6_1, hfz6_2⟩ := bcf3_ BK22.out) | ((with_reducible refine gate_callee (f := 123) rfl ?_); refine gl_ 8 Tryz.func123 #[.slice A0_2 l0_2.length c0_2, .int .i64 a1] ?_; (with_reducible refine (ih_laws_szExprS k (by omega) _ _ l0_2 a1 t21 _ (aC_ (Kd.C_below HR0_2.out HB.out)) HC0_2.out A3.out).mono ?_); rintro e w7 ⟨rfl, hb⟩; refine ⟨_, rfl, ?_⟩; replace BK22 := am (bbl_ BK22.out hb); replace HB := am (below_step ab30_ hb); (try clear hb)))
 have H := HH_.out
 clear HH_
 by_cases c4 : t21 < 0
 ·rw [if_pos c4] at H
  have c4b0 : decide (t21 < 0) = true := decide_eq_true c4
  clear c4
  obtain rfl := Option.some.inj H
  go_wp2
  go_ret
  exact ⟨rr_, ab30_⟩
 rw [if_neg c4] at H
 have c4b0 : decide (t21 < 0) = false := decide_eq_false c4
 clear c4
 obtain rfl := Option.some.inj H
 go_wp2
 go_ret
 exact ⟨rr_, ab30_⟩
theorem laws_szExprS.calls_all (k : Nat) : laws_szExprS.CallsAt k ∧ laws_szExpr.CallsAt k := by
 induction k using Nat.strongRecOn with
 | _ k ih => exact ⟨laws_szExprS.step k (ih_laws_szExprS := fun m hm => (ih m hm).1) (ih_laws_szExpr := fun m hm => (ih m hm).2), laws_szExpr.step k (ih_laws_szExprS := fun m hm => (ih m hm).1) (ih_laws_szExpr := fun m hm => (ih m hm).2)⟩
theorem laws_szExprS.calls (k : Nat) : laws_szExprS.CallsAt k := (laws_szExprS.calls_all k).1
theorem laws_szExpr.calls (k : Nat) : laws_szExpr.CallsAt k := (laws_szExprS.calls_all k).2
theorem laws_szStmt.step (k : Nat) (ih_laws_szStmt : ∀ m, m < k → laws_szStmt.CallsAt m) (ih_laws_szStmtS : ∀ m, m < k → laws_szStmtS.CallsAt m) : laws_szStmt.CallsAt k := by
 intro a0_0 a0_1 a0_2 a0_3 a0_4 A0_5 c0_5 l0_5 A0_6 c0_6 l0_6 A0_7 c0_7 l0_7 a1 r w hr0_5 hc0_5 hr0_6 hc0_6 hr0_7 hc0_7 h
 cases k with
 | zero => exact absurd h (by simp [laws_szStmt.f])
 | succ k =>
 simp only [laws_szStmt.f] at h
 have hu24 := Tryz.underlying113
 have hu25 := Tryz.underlying111
 have HR0_5 := am hr0_5
 have HC0_5 := am hc0_5
 clear hr0_5 hc0_5
 have HR0_6 := am hr0_6
 have HC0_6 := am hc0_6
 clear hr0_6 hc0_6
 have HR0_7 := am hr0_7
 have HC0_7 := am hc0_7
 clear hr0_7 hc0_7
 have HB := am (Below.refl w.heap.size w)
 have H : ((laws_szExpr.f k a0_3 a0_4 l0_5 a1).bind fun t26 => (if t26 < 0 then (some (-1)) else ((laws_szStmtS.f k l0_6 t26).bind fun t31 => (if t31 < 0 then (some (-1)) else ((laws_szStmtS.f k l0_7 t31).bind fun t32 => (if t32 < 0 then (some (-1)) else (some t32))))))) = some r := h
 clear h
 obtain ⟨t26, A3, H⟩ := bsa H
 (try dsimp only at H)
 have HH_ := am H
 clear H
 go_enter Tryz.func78, Tryz.ntmps78
 go_upto_region 2 with (first | ((with_reducible refine gate_dst (N := 2) rfl ?_); refine box_event rfl (N := 2) rfl (cs := #[.int .i64 a0_0, .int .i64 a0_1, .int .i64 a0_2, .int .i64 a0_3, .int .i64 a0_4, .slice A0_5 l0_5.length c0_5, .slice A0_6 l0_6.length c0_6, .slice A0_7 l0_7.length c0_7]) (t := 113) rn_ ?_; intro gb33 hg w5 hbox hb; have BK33 := am (hbox); have GW33 := am ((by rw [hg]; exact (below_size ab2_) : w.heap.size ≤ gb33)); have GE33 := am ((by rw [hg]; exact (below_size ab2_) : w.heap.size ≤ gb33)); replace HB := am (below_step ab2_ hb); clear hb hbox hg; obtain ⟨hcz6_0, hcz6_1, hcz6_2, hcz6_3, hcz6_4, hcz6_5, hcz6_6, hcz6_7, hfz6_0, hfz6_1, hfz6_2, hfz6_3, hfz6_4, hfz6_5, hfz6_6, hfz6_7⟩ := bcf8_ BK33.out) | ((with_reducible refine gate_callee (f := 102) rfl ?_); refine gl_ 8 Tryz.func102 #[.agg #[.int .i64 a0_3, .int .i64 a0_4, .slice A0_5 l0_5.length c0_5], .int .i64 a1] ?_; (with_reducible refine (laws_szExpr.calls k a0_3 a0_4 _ _ l0_5 a1 t26 _ (aC_ (Kd.C_below HR0_5.out HB.out)) HC0_5.out A3.out).mono ?_); rintro e w7 ⟨rfl, hb⟩; refine ⟨_, rfl, ?_⟩; replace BK33 := am (bbl_ BK33.out hb); replace HB := am (below_step ab35_ hb); (try clear hb)))
 have H := HH_.out
 clear HH_
 by_cases c4 : t26 < 0
 ·rw [if_pos c4] at H
  have c4b0 : decide (t26 < 0) = true := decide_eq_true c4
  clear c4
  obtain rfl := Option.some.inj H
  go_wp2
  go_ret
  exact ⟨rr_, ab35_⟩
 rw [if_neg c4] at H
 have c4b0 : decide (t26 < 0) = false := decide_eq_false c4
 clear c4
 obtain ⟨t31, A8, H⟩ := bsa H
 (try dsimp only at H)
 by_cases c9 : t31 < 0
 ·rw [if_pos c9] at H
  have c9b0 : decide (t31 < 0) = true := decide_eq_true c9
  clear c9
  obtain rfl := Option.some.inj H
  obtain ⟨hcz13_0, hcz13_1, hcz13_2, hcz13_3, hcz13_4, hcz13_5, hcz13_6, hcz13_7, hfz13_0, hfz13_1, hfz13_2, hfz13_3, hfz13_4, hfz13_5, hfz13_6, hfz13_7⟩ := bcf8_ BK33.out
  go_wp2_with (first | ((with_reducible refine gate_callee (f := 55) rfl ?_); refine gl_ 14 Tryz.func55 #[.slice A0_6 l0_6.length c0_6, .int .i64 t26] ?_; (with_reducible refine (ih_laws_szStmtS k (by omega) _ _ l0_6 t26 t31 _ (aC_ (Kd.C_below HR0_6.out HB.out)) HC0_6.out A8.out).mono ?_); rintro e w14 ⟨rfl, hb⟩; refine ⟨_, rfl, ?_⟩; replace BK33 := am (bbl_ BK33.out hb); replace HB := am (below_step ab35_ hb); (try clear hb)))
  go_ret
  exact ⟨rr_, ab35_⟩
 rw [if_neg c9] at H
 have c9b0 : decide (t31 < 0) = false := decide_eq_false c9
 clear c9
 obtain ⟨t32, A34, H⟩ := bsm H
 (try dsimp only at H)
 have A15 := am A34
 clear A34
 by_cases c16 : t32 < 0
 ·rw [if_pos c16] at H
  have c16b0 : decide (t32 < 0) = true := decide_eq_true c16
  clear c16
  obtain rfl := Option.some.inj H
  obtain ⟨hcz20_0, hcz20_1, hcz20_2, hcz20_3, hcz20_4, hcz20_5, hcz20_6, hcz20_7, hfz20_0, hfz20_1, hfz20_2, hfz20_3, hfz20_4, hfz20_5, hfz20_6, hfz20_7⟩ := bcf8_ BK33.out
  go_wp2_with (first | ((with_reducible refine gate_callee (f := 55) rfl ?_); refine gl_ 14 Tryz.func55 #[.slice A0_6 l0_6.length c0_6, .int .i64 t26] ?_; (with_reducible refine (ih_laws_szStmtS k (by omega) _ _ l0_6 t26 t31 _ (aC_ (Kd.C_below HR0_6.out HB.out)) HC0_6.out A8.out).mono ?_); rintro e w21 ⟨rfl, hb⟩; refine ⟨_, rfl, ?_⟩; replace BK33 := am (bbl_ BK33.out hb); replace HB := am (below_step ab35_ hb); (try clear hb); obtain ⟨hcz22_0, hcz22_1, hcz22_2, hcz22_3, hcz22_4, hcz22_5, hcz22_6, hcz22_7, hfz22_0, hfz22_1, hfz22_2, hfz22_3, hfz22_4, hfz22_5, hfz22_6, hfz22_7⟩ := bcf8_ BK33.out) | ((with_reducible refine gate_callee (f := 55) rfl ?_); refine gl_ 20 Tryz.func55 #[.slice A0_7 l0_7.length c0_7, .int .i64 t31] ?_; (with_reducible refine (ih_laws_szStmtS k (by omega) _ _ l0_7 t31 t32 _ (aC_ (Kd.C_below HR0_7.out HB.out)) HC0_7.out A15.out).mono ?_); rintro e w23 ⟨rfl, hb⟩; refine ⟨_, rfl, ?_⟩; replace BK33 := am (bbl_ BK33.out hb); replace HB := am (below_step ab35_ hb); (try clear hb)))
  go_ret
  exact ⟨rr_, ab35_⟩
 rw [if_neg c16] at H
 have c16b0 : decide (t32 < 0) = false := decide_eq_false c16
 clear c16
 obtain rfl := Option.some.inj H
 obtain ⟨hcz27_0, hcz27_1, hcz27_2, hcz27_3, hcz27_4, hcz27_5, hcz27_6, hcz27_7, hfz27_0, hfz27_1, hfz27_2, hfz27_3, hfz27_4, hfz27_5, hfz27_6, hfz27_7⟩ := bcf8_ BK33.out
 go_wp2_with (first | ((with_reducible refine gate_callee (f := 55) rfl ?_); refine gl_ 14 Tryz.func55 #[.slice A0_6 l0_6.length c0_6, .int .i64 t26] ?_; (with_reducible refine (ih_laws_szStmtS k (by omega) _ _ l0_6 t26 t31 _ (aC_ (Kd.C_below HR0_6.out HB.out)) HC0_6.out A8.out).mono ?_); rintro e w28 ⟨rfl, hb⟩; refine ⟨_, rfl, ?_⟩; replace BK33 := am (bbl_ BK33.out hb); replace HB := am (below_step ab35_ hb); (try clear hb); obtain ⟨hcz29_0, hcz29_1, hcz29_2, hcz29_3, hcz29_4, hcz29_5, hcz29_6, hcz29_7, hfz29_0, hfz29_1, hfz29_2, hfz29_3, hfz29_4, hfz29_5, hfz29_6, hfz29_7⟩ := bcf8_ BK33.out) | ((with_reducible refine gate_callee (f := 55) rfl ?_); refine gl_ 20 Tryz.func55 #[.slice A0_7 l0_7.length c0_7, .int .i64 t31] ?_; (with_reducible refine (ih_laws_szStmtS k (by omega) _ _ l0_7 t31 t32 _ (aC_ (Kd.C_below HR0_7.out HB.out)) HC0_7.out A15.out).mono ?_); rintro e w30 ⟨rfl, hb⟩; refine ⟨_, rfl, ?_⟩; replace BK33 := am (bbl_ BK33.out hb); replace HB := am (below_step ab35_ hb); (try clear hb)))
 go_ret
 exact ⟨rr_, ab35_⟩
theorem laws_szStmtS.step (k : Nat) (ih_laws_szStmt : ∀ m, m < k → laws_szStmt.CallsAt m) (ih_laws_szStmtS : ∀ m, m < k → laws_szStmtS.CallsAt m) : laws_szStmtS.CallsAt k := by
 intro A0 c0 l0 a1 r w hr0 hc0 h
 cases k with
 | zero => exact absurd h (by simp [laws_szStmtS.f])
 | succ k =>
 simp only [laws_szStmtS.f] at h
 have hu20 := Tryz.underlying113
 have HR0 := am hr0
 have HC0 := am hc0
 clear hr0 hc0
 have HB := am (Below.refl w.heap.size w)
 have H : (if (wrap64 (a1 - (l0.length : Int))) < 0 then (some (-1)) else (laws_szStmtS.l0 k l0 (wrap64 (a1 - (l0.length : Int))) 0)) = some r := h
 clear h
 by_cases c3 : (wrap64 (a1 - (l0.length : Int))) < 0
 ·rw [if_pos c3] at H
  have c3b0 : decide ((wrap64 (a1 - (l0.length : Int))) < 0) = true := decide_eq_true c3
  clear c3
  obtain rfl := Option.some.inj H
  go_enter Tryz.func55, Tryz.ntmps55
  go_wp2
  go_ret
  exact ⟨rr_, ab2_⟩
 rw [if_neg c3] at H
 have c3b0 : decide ((wrap64 (a1 - (l0.length : Int))) < 0) = false := decide_eq_false c3
 clear c3
 have H' := am H
 clear H
 go_enter Tryz.func55, Tryz.ntmps55
 go_wp2
 go_loopg [1, 5] k (fun kq v1 v5 w' => ∃ (x1_1 : Int) (x5_1 : Int), v1 = .int .i64 x1_1 ∧ v5 = .int .i64 x5_1 ∧ Aside0 (laws_szStmtS.l0 kq l0 x1_1 x5_1 = some r) ∧ Aside0 (kq ≤ k) ∧ Aside0 (Below w.heap.size w w'))
 case atStart => exact ⟨(wrap64 (a1 - (l0.length : Int))), (0), sd_, sd_, H', ⟨Nat.le_refl _⟩, ⟨ab2_⟩⟩
 case round =>
  clear H'
  try clear c3
  try clear c3b0
  obtain ⟨x1_1, x5_1, rfl, rfl, HA, HK1, HB⟩ := hrel
  cases gk with
  | zero => exact absurd HA.out (by simp [laws_szStmtS.l0])
  | succ k1 =>
   have H := HA.out
   clear HA
   simp only [laws_szStmtS.l0] at H
   by_cases c4 : x5_1 < (l0.length : Int)
   ·rw [if_pos c4] at H
    have c4b0 : decide (x5_1 < (l0.length : Int)) = true := decide_eq_true c4
    clear c4
    by_cases c5 : 0 ≤ x5_1
    ·rw [if_pos c5] at H
     have c5b0 : decide (0 ≤ x5_1) = true := decide_eq_true c5
     clear c5
     obtain ⟨t21, A6, H⟩ := bsa H
     (try dsimp only at H)
     by_cases c7 : t21 < 0
     ·rw [if_pos c7] at H
      have c7b0 : decide (t21 < 0) = true := decide_eq_true c7
      clear c7
      obtain rfl := Option.some.inj H
      have p22 : 0 ≤ (x5_1 : Int) := of_decide_eq_true asm_
      have q22 : x5_1 < (l0.length : Int) := of_decide_eq_true asm_
      obtain ⟨ad22, A22_5, c22_5, A22_6, c22_6, A22_7, c22_7, e22, hx22_0, hx22_1, hx22_2, hx22_3, hx22_4, hx22_5, hx22_6, hx22_7, hl22_5, hi22_5, hl22_6, hi22_6, hl22_7, hi22_7⟩ := at_T113 HR0.out x5_1 p22 q22
      cases e22
      replace hx22_0 := (HB.out.cell (World.block_lt_of_cell? w _ hx22_0)).trans hx22_0
      replace hx22_1 := (HB.out.cell (World.block_lt_of_cell? w _ hx22_1)).trans hx22_1
      replace hx22_2 := (HB.out.cell (World.block_lt_of_cell? w _ hx22_2)).trans hx22_2
      replace hx22_3 := (HB.out.cell (World.block_lt_of_cell? w _ hx22_3)).trans hx22_3
      replace hx22_4 := (HB.out.cell (World.block_lt_of_cell? w _ hx22_4)).trans hx22_4
      replace hx22_5 := (HB.out.cell (World.block_lt_of_cell? w _ hx22_5)).trans hx22_5
      replace hx22_6 := (HB.out.cell (World.block_lt_of_cell? w _ hx22_6)).trans hx22_6
      replace hx22_7 := (HB.out.cell (World.block_lt_of_cell? w _ hx22_7)).trans hx22_7
      have HR22_5 := am hi22_5
      have HC22_5 := am hl22_5
      clear hi22_5 hl22_5
      have HR22_6 := am hi22_6
      have HC22_6 := am hl22_6
      clear hi22_6 hl22_6
      have HR22_7 := am hi22_7
      have HC22_7 := am hl22_7
      clear hi22_7 hl22_7
      replace p22 := eq_true p22
      replace q22 := eq_true q22
      go_wp2_with (first | ((with_reducible refine gate_callee (f := 78) rfl ?_); refine gl_ 23 Tryz.func78 #[.agg #[.int .i64 ((rd_T113 l0 x5_1).f0), .int .i64 ((rd_T113 l0 x5_1).f1), .int .i64 ((rd_T113 l0 x5_1).f2), .int .i64 ((rd_T113 l0 x5_1).f3.f0), .int .i64 ((rd_T113 l0 x5_1).f3.f1), .slice A22_5 ((rd_T113 l0 x5_1).f3.f2).length c22_5, .slice A22_6 ((rd_T113 l0 x5_1).f4).length c22_6, .slice A22_7 ((rd_T113 l0 x5_1).f5).length c22_7], .int .i64 x1_1] ?_; (with_reducible refine (ih_laws_szStmt k1 (by have := HK1.out; omega) ((rd_T113 l0 x5_1).f0) ((rd_T113 l0 x5_1).f1) ((rd_T113 l0 x5_1).f2) ((rd_T113 l0 x5_1).f3.f0) ((rd_T113 l0 x5_1).f3.f1) _ _ ((rd_T113 l0 x5_1).f3.f2) _ _ ((rd_T113 l0 x5_1).f4) _ _ ((rd_T113 l0 x5_1).f5) x1_1 t21 _ (aC_ (Kd.C_below HR22_5.out HB.out)) HC22_5.out (aC_ (Kd.C_below HR22_6.out HB.out)) HC22_6.out (aC_ (Kd.C_below HR22_7.out HB.out)) HC22_7.out A6.out).mono ?_); rintro e w8 ⟨rfl, hb⟩; refine ⟨_, rfl, ?_⟩; replace HB := am (below_step ab2_ hb); (try clear hb)))
      go_ret
      exact ⟨rr_, ab2_⟩
     rw [if_neg c7] at H
     have c7b0 : decide (t21 < 0) = false := decide_eq_false c7
     clear c7
     have H' := am H
     clear H
     have p22 : 0 ≤ (x5_1 : Int) := of_decide_eq_true asm_
     have q22 : x5_1 < (l0.length : Int) := of_decide_eq_true asm_
     obtain ⟨ad22, A22_5, c22_5, A22_6, c22_6, A22_7, c22_7, e22, hx22_0, hx22_1, hx22_2, hx22_3, hx22_4, hx22_5, hx22_6, hx22_7, hl22_5, hi22_5, hl22_6, hi22_6, hl22_7, hi22_7⟩ := at_T113 HR0.out x5_1 p22 q22
     cases e22
     replace hx22_0 := (HB.out.cell (World.block_lt_of_cell? w _ hx22_0)).trans hx22_0
     replace hx22_1 := (HB.out.cell (World.block_lt_of_cell? w _ hx22_1)).trans hx22_1
     replace hx22_2 := (HB.out.cell (World.block_lt_of_cell? w _ hx22_2)).trans hx22_2
     replace hx22_3 := (HB.out.cell (World.block_lt_of_cell? w _ hx22_3)).trans hx22_3
     replace hx22_4 := (HB.out.cell (World.block_lt_of_cell? w _ hx22_4)).trans hx22_4
     replace hx22_5 := (HB.out.cell (World.block_lt_of_cell? w _ hx22_5)).trans hx22_5
     replace hx22_6 := (HB.out.cell (World.block_lt_of_cell? w _ hx22_6)).trans hx22_6
     replace hx22_7 := (HB.out.cell (World.block_lt_of_cell? w _ hx22_7)).trans hx22_7
     have HR22_5 := am hi22_5
     have HC22_5 := am hl22_5
     clear hi22_5 hl22_5
     have HR22_6 := am hi22_6
     have HC22_6 := am hl22_6
     clear hi22_6 hl22_6
     have HR22_7 := am hi22_7
     have HC22_7 := am hl22_7
     clear hi22_7 hl22_7
     replace p22 := eq_true p22
     replace q22 := eq_true q22
     go_wp2_with (first | ((with_reducible refine gate_callee (f := 78) rfl ?_); refine gl_ 23 Tryz.func78 #[.agg #[.int .i64 ((rd_T113 l0 x5_1).f0), .int .i64 ((rd_T113 l0 x5_1).f1), .int .i64 ((rd_T113 l0 x5_1).f2), .int .i64 ((rd_T113 l0 x5_1).f3.f0), .int .i64 ((rd_T113 l0 x5_1).f3.f1), .slice A22_5 ((rd_T113 l0 x5_1).f3.f2).length c22_5, .slice A22_6 ((rd_T113 l0 x5_1).f4).length c22_6, .slice A22_7 ((rd_T113 l0 x5_1).f5).length c22_7], .int .i64 x1_1] ?_; (with_reducible refine (ih_laws_szStmt k1 (by have := HK1.out; omega) ((rd_T113 l0 x5_1).f0) ((rd_T113 l0 x5_1).f1) ((rd_T113 l0 x5_1).f2) ((rd_T113 l0 x5_1).f3.f0) ((rd_T113 l0 x5_1).f3.f1) _ _ ((rd_T113 l0 x5_1).f3.f2) _ _ ((rd_T113 l0 x5_1).f4) _ _ ((rd_T113 l0 x5_1).f5) x1_1 t21 _ (aC_ (Kd.C_below HR22_5.out HB.out)) HC22_5.out (aC_ (Kd.C_below HR22_6.out HB.out)) HC22_6.out (aC_ (Kd.C_below HR22_7.out HB.out)) HC22_7.out A6.out).mono ?_); rintro e w9 ⟨rfl, hb⟩; refine ⟨_, rfl, ?_⟩; replace HB := am (below_step ab2_ hb); (try clear hb)))
     go_roundg k1
     case measure => have := HK1.out; omega
     case rel => exact ⟨(t21), (wrap64 (x5_1 + 1)), sd_, sd_, H', ⟨by have := HK1.out; omega⟩, ⟨ab2_⟩⟩
    rw [if_neg c5] at H
    exact absurd H (by simp)
   rw [if_neg c4] at H
   have c4b0 : decide (x5_1 < (l0.length : Int)) = false := decide_eq_false c4
   clear c4
   obtain rfl := Option.some.inj H
   go_wp2
   go_ret
   exact ⟨rr_, ab2_⟩
theorem laws_szStmt.calls_all (k : Nat) : laws_szStmt.CallsAt k ∧ laws_szStmtS.CallsAt k := by
 induction k using Nat.strongRecOn with
 | _ k ih => exact ⟨laws_szStmt.step k (ih_laws_szStmt := fun m hm => (ih m hm).1) (ih_laws_szStmtS := fun m hm => (ih m hm).2), laws_szStmtS.step k (ih_laws_szStmt := fun m hm => (ih m hm).1) (ih_laws_szStmtS := fun m hm => (ih m hm).2)⟩
theorem laws_szStmt.calls (k : Nat) : laws_szStmt.CallsAt k := (laws_szStmt.calls_all k).1
theorem laws_szStmtS.calls (k : Nat) : laws_szStmtS.CallsAt k := (laws_szStmt.calls_all k).2
end Go.Proofs.YtjamfkpgmkhbnaaGreatDoor.PA


/- Part 4 of the proof of FnStmtsFoldOne. -/
import Derived.Test.YtodhbeeibagiaaaQFnStmtsFoldOne2
set_option maxHeartbeats 8000000
set_option maxRecDepth 100000
namespace Go.Proofs.Ytodhbeeibagiaaa.PA
open Go.RowKit Go.Proofs.YtodhbeeibagiaaaW.PrintWords Go.Proofs.YtodhbeeibagiaaaW.PrintLast Go.Proofs.YtodhbeeibagiaaaW.PrintMore
attribute [local go_sem] max2_int min2_int max_two min_two max_three min_three max_four min_four
set_option linter.unusedVariables false
set_option linter.unusedSimpArgs false
theorem impl_exprValid.mono_l : ∀ k, (∀ y0 y1 y2 y3, LeO (impl_exprValid.f k y0 y1 y2 y3) (impl_exprValid.f (k + 1) y0 y1 y2 y3))
 | 0 => fun _ _ _ _ r h => by simp [impl_exprValid.f] at h
 | k + 1 => by
  have ih0 := impl_exprValid.mono_l k
  ·intro y0 y1 y2 y3
   unfold impl_exprValid.f
   repeat' first
   | (with_reducible exact ih0 _ _ _ _)
   | (with_reducible exact LeO.refl _)
   | (with_reducible exact LeO.none _)
   | (with_reducible refine LeO.ite ?_ ?_)
   | (with_reducible refine LeO.bind ?_ (fun _ => ?_))
theorem impl_exprValid.mono : ∀ a0 a1 a2 a3 k, LeO (impl_exprValid.f k a0 a1 a2 a3) (impl_exprValid.f (k + 1) a0 a1 a2 a3) := by
 intro a0 a1 a2 a3 k
 have ih0 := impl_exprValid.mono_l k
 exact ih0 a0 a1 a2 a3
theorem impl_exprValid.calls (k : Nat) : ∀ (a0_0 : Int) (a0_1 : Int) (A0_2 : Option Addr) (c0_2 : Nat) (l0_2 : List (S32)) (a1 : Int) (r : Bool) (w : World) (hr0_2 : Kd.C k32 w A0_2 l0_2.length l0_2) (hc0_2 : l0_2.length ≤ c0_2) (h : impl_exprValid.f k a0_0 a0_1 l0_2 a1 = some r),
  Calls Try.prog 124 #[.agg #[.int .i64 a0_0, .int .i64 a0_1, .slice A0_2 l0_2.length c0_2], .int .i64 a1] w fun e w' => e = .returned (.bool r) ∧ Below w.heap.size w w' := by
 induction k using Nat.strongRecOn with
 | _ k ih =>
 intro a0_0 a0_1 A0_2 c0_2 l0_2 a1 r w hr0_2 hc0_2 h
 cases k with
 | zero => exact absurd h (by simp [impl_exprValid.f])
 | succ k =>
 simp only [impl_exprValid.f] at h
 have hu32 := Try.underlying32
 have HR0_2 := am hr0_2
 have HC0_2 := am hc0_2
 clear hr0_2 hc0_2
 have HB := am (Below.refl w.heap.size w)
 have H : (if a0_0 = 0 then (if a0_1 ≥ 0 then (if a0_1 ≤ 99999 then (if (l0_2.length : Int) = 0 then (some (decide (a1 > 0))) else (some false)) else (some false)) else (some false)) else (if a0_0 = 13 then (if a0_1 ≥ 0 then (if a0_1 < 4 then (if (l0_2.length : Int) = 0 then (some (decide (a1 > 0))) else (some false)) else (some false)) else (some false)) else ((impl_OpValid.f a0_0).bind fun t511 => (if t511 = true then (if a0_1 = 0 then (if (l0_2.length : Int) = 2 then (if a1 > 1 then (if 0 < (l0_2.length : Int) then ((impl_exprValid.f k ((rd_T32 l0_2 0).f0) ((rd_T32 l0_2 0).f1) ((rd_T32 l0_2 0).f2) (wrap64 (a1 - 1))).bind fun t513 => (if t513 = true then (if 1 < (l0_2.length : Int) then ((impl_exprValid.f k ((rd_T32 l0_2 1).f0) ((rd_T32 l0_2 1).f1) ((rd_T32 l0_2 1).f2) (wrap64 (a1 - 1))).bind fun t515 => (some t515)) else (none)) else (some false))) else (none)) else (some false)) else (some false)) else (some false)) else (some false))))) = some r := h
 clear h
 have HH_ := am H
 clear H
 go_enter Try.func124, Try.ntmps124
 go_upto_region 1 with (first | ((with_reducible refine gate_dst (N := 2) rfl ?_); (try (refine gate_guard (by rfl) ?_; dsimp only)); refine box_event rfl (N := 2) rfl (cs := #[.int .i64 a0_0, .int .i64 a0_1, .slice A0_2 l0_2.length c0_2]) (t := 32) rn_ ?_; intro gb510 hg w7 hbox hb; have BK510 := am (hbox); have GW510 := am ((by rw [hg]; exact (below_size ab2_) : w.heap.size ≤ gb510)); have GE510 := am ((by rw [hg]; exact (below_size ab2_) : w.heap.size ≤ gb510)); replace HB := am (below_step ab2_ hb); clear hb hbox hg; obtain ⟨hcz8_0, hcz8_1, hcz8_2, hfz8_0, hfz8_1, hfz8_2⟩ := bcf3_ BK510.out))
 have H := HH_.out
 clear HH_
 by_cases c3 : a0_0 = 0
 ·rw [if_pos c3] at H
  have c3b0 : (a0_0 == 0) = true := beq_iff_eq.mpr c3
  have c3b1 : (a0_0 != 0) = false := bne_eq_false_iff_eq.mpr c3
  clear c3
  by_cases c4 : a0_1 ≥ 0
  ·rw [if_pos c4] at H
   have c4b0 : decide (0 ≤ a0_1) = true := decide_eq_true c4
   clear c4
   by_cases c5 : a0_1 ≤ 99999
   ·rw [if_pos c5] at H
    have c5b0 : decide (a0_1 ≤ 99999) = true := decide_eq_true c5
    clear c5
    by_cases c6 : (l0_2.length : Int) = 0
    ·rw [if_pos c6] at H
     have c6b0 : ((l0_2.length : Int) == 0) = true := beq_iff_eq.mpr c6
     have c6b1 : ((l0_2.length : Int) != 0) = false := bne_eq_false_iff_eq.mpr c6
     clear c6
     obtain rfl := Option.some.inj H
     go_wp2
     go_ret
     exact ⟨rr_, ab23_⟩
    rw [if_neg c6] at H
    have c6b0 : ((l0_2.length : Int) == 0) = false := beq_eq_false_iff_ne.mpr c6
    have c6b1 : ((l0_2.length : Int) != 0) = true := bne_iff_ne.mpr c6
    have c6b2 : ¬ (l0_2 = []) := fun h_ => c6 (by rw [h_]; rfl)
    obtain rfl := Option.some.inj H
    go_wp2
    go_ret
    exact ⟨rr_, ab23_⟩
   rw [if_neg c5] at H
   have c5b0 : decide (a0_1 ≤ 99999) = false := decide_eq_false c5
   clear c5
   obtain rfl := Option.some.inj H
   go_wp2
   go_ret
   exact ⟨rr_, ab23_⟩
  rw [if_neg c4] at H
  have c4b0 : decide (0 ≤ a0_1) = false := decide_eq_false c4
  clear c4
  obtain rfl := Option.some.inj H
  go_wp2
  go_ret
  exact ⟨rr_, ab23_⟩
 rw [if_neg c3] at H
 have c3b0 : (a0_0 == 0) = false := beq_eq_false_iff_ne.mpr c3
 have c3b1 : (a0_0 != 0) = true := bne_iff_ne.mpr c3
 by_cases c15 : a0_0 = 13
 ·rw [if_pos c15] at H
  have c15b0 : (a0_0 == 13) = true := beq_iff_eq.mpr c15
  have c15b1 : (a0_0 != 13) = false := bne_eq_false_iff_eq.mpr c15
  clear c15
  by_cases c16 : a0_1 ≥ 0
  ·rw [if_pos c16] at H
   have c16b0 : decide (0 ≤ a0_1) = true := decide_eq_true c16
   clear c16
   by_cases c17 : a0_1 < 4
   ·rw [if_pos c17] at H
    have c17b0 : decide (a0_1 < 4) = true := decide_eq_true c17
    clear c17
    by_cases c18 : (l0_2.length : Int) = 0
    ·rw [if_pos c18] at H
     have c18b0 : ((l0_2.length : Int) == 0) = true := beq_iff_eq.mpr c18
     have c18b1 : ((l0_2.length : Int) != 0) = false := bne_eq_false_iff_eq.mpr c18
     clear c18
     obtain rfl := Option.some.inj H
     go_wp2
     go_ret
     exact ⟨rr_, ab23_⟩
    rw [if_neg c18] at H
    have c18b0 : ((l0_2.length : Int) == 0) = false := beq_eq_false_iff_ne.mpr c18
    have c18b1 : ((l0_2.length : Int) != 0) = true := bne_iff_ne.mpr c18
    have c18b2 : ¬ (l0_2 = []) := fun h_ => c18 (by rw [h_]; rfl)
    obtain rfl := Option.some.inj H
    go_wp2
    go_ret
    exact ⟨rr_, ab23_⟩
   rw [if_neg c17] at H
   have c17b0 : decide (a0_1 < 4) = false := decide_eq_false c17
   clear c17
   obtain rfl := Option.some.inj H
   go_wp2
   go_ret
   exact ⟨rr_, ab23_⟩
  rw [if_neg c16] at H
  have c16b0 : decide (0 ≤ a0_1) = false := decide_eq_false c16
  clear c16
  obtain rfl := Option.some.inj H
  go_wp2
  go_ret
  exact ⟨rr_, ab23_⟩
 rw [if_neg c15] at H
 have c15b0 : (a0_0 == 13) = false := beq_eq_false_iff_ne.mpr c15
 have c15b1 : (a0_0 != 13) = true := bne_iff_ne.mpr c15
 obtain ⟨t511, A270, H⟩ := bsm H
 (try dsimp only at H)
 have A27 := am A270
 clear A270
 by_cases c28 : t511 = true
 ·subst c28
  rw [if_pos rfl] at H
  by_cases c29 : a0_1 = 0
  ·rw [if_pos c29] at H
   have c29b0 : (a0_1 == 0) = true := beq_iff_eq.mpr c29
   have c29b1 : (a0_1 != 0) = false := bne_eq_false_iff_eq.mpr c29
   clear c29
   by_cases c30 : (l0_2.length : Int) = 2
   ·rw [if_pos c30] at H
    have c30b0 : ((l0_2.length : Int) == 2) = true := beq_iff_eq.mpr c30
    have c30b1 : ((l0_2.length : Int) != 2) = false := bne_eq_false_iff_eq.mpr c30
    clear c30
    by_cases c31 : a1 > 1
    ·rw [if_pos c31] at H
     have c31b0 : decide (1 < a1) = true := decide_eq_true c31
     clear c31
     by_cases c32 : 0 < (l0_2.length : Int)
     ·rw [if_pos c32] at H
      have c32b0 : decide (0 < (l0_2.length : Int)) = true := decide_eq_true c32
      have c32b1 : decide (0 < l0_2.length) = true := decide_eq_true (by omega)
      clear c32
      obtain ⟨t513, A330, H⟩ := bsm H
      (try dsimp only at H)
      have A33 := am A330
      clear A330
      by_cases c34 : t513 = true
      ·subst c34
       rw [if_pos rfl] at H
       by_cases c35 : 1 < (l0_2.length : Int)
       ·rw [if_pos c35] at H
        have c35b0 : decide (1 < (l0_2.length : Int)) = true := decide_eq_true c35
        have c35b1 : decide (1 < l0_2.length) = true := decide_eq_true (by omega)
        clear c35
        obtain ⟨t515, A360, H⟩ := bsm H
        (try dsimp only at H)
        have A36 := am A360
        clear A360
        obtain rfl := Option.some.inj H
        go_wp2_with (first | ((with_reducible refine gate_callee (f := 125) rfl ?_); refine goesL_ (some 51) rfl rfl Try.func125 (by kernel_rfl) rfl #[.int .i64 a0_0] rfl ab1_ ?_; (with_reducible refine (impl_OpValid.calls a0_0 true _ A27.out).mono ?_); rintro e w' ⟨rfl, ⟨nd, rfl⟩⟩; refine ⟨_, rfl, ?_⟩; have p512 : 0 ≤ (0 : Int) := (by omega); have q512 : 0 < (l0_2.length : Int) := of_decide_eq_true asm_; obtain ⟨ad512, A512_2, c512_2, e512, hx512_0, hx512_1, hx512_2, hl512_2, hi512_2⟩ := at_T32 HR0_2.out 0 p512 q512; cases e512; have qi512 : (0 < l0_2.length) = True := eq_true (by omega); (try rw [show ((0 : Int)).toNat = 0 from rfl] at hx512_0); (try rw [show 0 * 3 = 0 from rfl] at hx512_0); (try rw [Addr.add_zero'] at hx512_0); (try rw [show ((0 : Int)).toNat = 0 from rfl] at hx512_1); (try rw [show 0 * 3 = 0 from rfl] at hx512_1); (try rw [Addr.add_zero'] at hx512_1); (try rw [show ((0 : Int)).toNat = 0 from rfl] at hx512_2); (try rw [show 0 * 3 = 0 from rfl] at hx512_2); (try rw [Addr.add_zero'] at hx512_2); replace hx512_0 := (HB.out.cell (World.block_lt_of_cell? w _ hx512_0)).trans hx512_0; replace hx512_1 := (HB.out.cell (World.block_lt_of_cell? w _ hx512_1)).trans hx512_1; replace hx512_2 := (HB.out.cell (World.block_lt_of_cell? w _ hx512_2)).trans hx512_2; have HR512_2 := am hi512_2; have HC512_2 := am hl512_2; clear hi512_2 hl512_2; replace p512 := eq_true p512; replace q512 := eq_true q512) | (go_at_call 124; (with_reducible refine (ih k (by omega) ((rd_T32 l0_2 0).f0) ((rd_T32 l0_2 0).f1) _ _ ((rd_T32 l0_2 0).f2) (wrap64 (a1 - 1)) true _ (aC_ (Kd.C_below HR512_2.out ab23_)) HC512_2.out A33.out).mono ?_); rintro e w39 ⟨rfl, hb⟩; replace BK510 := am (bbl_ BK510.out hb); replace HB := am (below_step ab23_ hb); (try clear hb); (try clear hb2); (try clear hk); (try clear hi); obtain ⟨hcz40_0, hcz40_1, hcz40_2, hfz40_0, hfz40_1, hfz40_2⟩ := bcf3_ BK510.out; have p514 : 0 ≤ (1 : Int) := (by omega); have q514 : 1 < (l0_2.length : Int) := of_decide_eq_true asm_; obtain ⟨ad514, A514_2, c514_2, e514, hx514_0, hx514_1, hx514_2, hl514_2, hi514_2⟩ := at_T32 HR0_2.out 1 p514 q514; obtain rfl : ad512 = ad514 := (by injection e514); (try simp only [show (1 : Int).toNat = 1 from rfl, Nat.reduceMul, Nat.reduceEqDiff, Go.Addr.add, ↓reduceIte] at hx514_0); (try simp only [show (1 : Int).toNat = 1 from rfl, Nat.reduceMul, Nat.reduceEqDiff, Go.Addr.add, ↓reduceIte] at hx514_1); (try simp only [show (1 : Int).toNat = 1 from rfl, Nat.reduceMul, Nat.reduceEqDiff, Go.Addr.add, ↓reduceIte] at hx514_2); have qi514 : (1 < l0_2.length) = True := eq_true (by omega); (try rw [show ((1 : Int)).toNat = 1 from rfl] at hx514_0); (try rw [show 1 * 3 = 3 from rfl] at hx514_0); (try rw [show ((1 : Int)).toNat = 1 from rfl] at hx514_1); (try rw [show 1 * 3 = 3 from rfl] at hx514_1); (try rw [show ((1 : Int)).toNat = 1 from rfl] at hx514_2); (try rw [show 1 * 3 = 3 from rfl] at hx514_2); replace hx514_0 := (HB.out.cell (World.block_lt_of_cell? w _ hx514_0)).trans hx514_0; replace hx514_1 := (HB.out.cell (World.block_lt_of_cell? w _ hx514_1)).trans hx514_1; replace hx514_2 := (HB.out.cell (World.block_lt_of_cell? w _ hx514_2)).trans hx514_2; have HR514_2 := am hi514_2; have HC514_2 := am hl514_2; clear hi514_2 hl514_2; replace p514 := eq_true p514; replace q514 := eq_true q514) | (go_at_call 124; (with_reducible refine (ih k (by omega) ((rd_T32 l0_2 1).f0) ((rd_T32 l0_2 1).f1) _ _ ((rd_T32 l0_2 1).f2) (wrap64 (a1 - 1)) t515 _ (aC_ (Kd.C_below HR514_2.out HB.out)) HC514_2.out A36.out).mono ?_); rintro e w41 ⟨rfl, hb⟩; replace BK510 := am (bbl_ BK510.out hb); replace HB := am (below_step ab23_ hb); (try clear hb); (try clear hb2); (try clear hk); (try clear hi)))
        go_ret
        exact ⟨rr_, ab23_⟩
       rw [if_neg c35] at H
       exact absurd H (by simp)
      replace c34 := Bool.eq_false_iff.mpr c34
      subst c34
      rw [if_neg (show ¬ (false = true) by decide)] at H
      obtain rfl := Option.some.inj H
      go_wp2_with (first | ((with_reducible refine gate_callee (f := 125) rfl ?_); refine goesL_ (some 51) rfl rfl Try.func125 (by kernel_rfl) rfl #[.int .i64 a0_0] rfl ab1_ ?_; (with_reducible refine (impl_OpValid.calls a0_0 true _ A27.out).mono ?_); rintro e w' ⟨rfl, ⟨nd, rfl⟩⟩; refine ⟨_, rfl, ?_⟩; have p512 : 0 ≤ (0 : Int) := (by omega); have q512 : 0 < (l0_2.length : Int) := of_decide_eq_true asm_; obtain ⟨ad512, A512_2, c512_2, e512, hx512_0, hx512_1, hx512_2, hl512_2, hi512_2⟩ := at_T32 HR0_2.out 0 p512 q512; cases e512; have qi512 : (0 < l0_2.length) = True := eq_true (by omega); (try rw [show ((0 : Int)).toNat = 0 from rfl] at hx512_0); (try rw [show 0 * 3 = 0 from rfl] at hx512_0); (try rw [Addr.add_zero'] at hx512_0); (try rw [show ((0 : Int)).toNat = 0 from rfl] at hx512_1); (try rw [show 0 * 3 = 0 from rfl] at hx512_1); (try rw [Addr.add_zero'] at hx512_1); (try rw [show ((0 : Int)).toNat = 0 from rfl] at hx512_2); (try rw [show 0 * 3 = 0 from rfl] at hx512_2); (try rw [Addr.add_zero'] at hx512_2); replace hx512_0 := (HB.out.cell (World.block_lt_of_cell? w _ hx512_0)).trans hx512_0; replace hx512_1 := (HB.out.cell (World.block_lt_of_cell? w _ hx512_1)).trans hx512_1; replace hx512_2 := (HB.out.cell (World.block_lt_of_cell? w _ hx512_2)).trans hx512_2; have HR512_2 := am hi512_2; have HC512_2 := am hl512_2; clear hi512_2 hl512_2; replace p512 := eq_true p512; replace q512 := eq_true q512) | (go_at_call 124; (with_reducible refine (ih k (by omega) ((rd_T32 l0_2 0).f0) ((rd_T32 l0_2 0).f1) _ _ ((rd_T32 l0_2 0).f2) (wrap64 (a1 - 1)) false _ (aC_ (Kd.C_below HR512_2.out ab23_)) HC512_2.out A33.out).mono ?_); rintro e w44 ⟨rfl, hb⟩; replace BK510 := am (bbl_ BK510.out hb); replace HB := am (below_step ab23_ hb); (try clear hb); (try clear hb2); (try clear hk); (try clear hi)))
      go_ret
      exact ⟨rr_, ab23_⟩
     rw [if_neg c32] at H
     exact absurd H (by simp)
    rw [if_neg c31] at H
    have c31b0 : decide (1 < a1) = false := decide_eq_false c31
    clear c31
    obtain rfl := Option.some.inj H
    go_wp2_with (first | ((with_reducible refine gate_callee (f := 125) rfl ?_); refine goesL_ (some 51) rfl rfl Try.func125 (by kernel_rfl) rfl #[.int .i64 a0_0] rfl ab1_ ?_; (with_reducible refine (impl_OpValid.calls a0_0 true _ A27.out).mono ?_); rintro e w' ⟨rfl, ⟨nd, rfl⟩⟩; refine ⟨_, rfl, ?_⟩))
    go_ret
    exact ⟨rr_, ab23_⟩
   rw [if_neg c30] at H
   have c30b0 : ((l0_2.length : Int) == 2) = false := beq_eq_false_iff_ne.mpr c30
   have c30b1 : ((l0_2.length : Int) != 2) = true := bne_iff_ne.mpr c30
   obtain rfl := Option.some.inj H
   go_wp2_with (first | ((with_reducible refine gate_callee (f := 125) rfl ?_); refine goesL_ (some 51) rfl rfl Try.func125 (by kernel_rfl) rfl #[.int .i64 a0_0] rfl ab1_ ?_; (with_reducible refine (impl_OpValid.calls a0_0 true _ A27.out).mono ?_); rintro e w' ⟨rfl, ⟨nd, rfl⟩⟩; refine ⟨_, rfl, ?_⟩))
   go_ret
   exact ⟨rr_, ab23_⟩
  rw [if_neg c29] at H
  have c29b0 : (a0_1 == 0) = false := beq_eq_false_iff_ne.mpr c29
  have c29b1 : (a0_1 != 0) = true := bne_iff_ne.mpr c29
  obtain rfl := Option.some.inj H
  go_wp2_with (first | ((with_reducible refine gate_callee (f := 125) rfl ?_); refine goesL_ (some 51) rfl rfl Try.func125 (by kernel_rfl) rfl #[.int .i64 a0_0] rfl ab1_ ?_; (with_reducible refine (impl_OpValid.calls a0_0 true _ A27.out).mono ?_); rintro e w' ⟨rfl, ⟨nd, rfl⟩⟩; refine ⟨_, rfl, ?_⟩))
  go_ret
  exact ⟨rr_, ab23_⟩
 replace c28 := Bool.eq_false_iff.mpr c28
 subst c28
 rw [if_neg (show ¬ (false = true) by decide)] at H
 obtain rfl := Option.some.inj H
 go_wp2_with (first | ((with_reducible refine gate_callee (f := 125) rfl ?_); refine goesL_ (some 51) rfl rfl Try.func125 (by kernel_rfl) rfl #[.int .i64 a0_0] rfl ab1_ ?_; (with_reducible refine (impl_OpValid.calls a0_0 false _ A27.out).mono ?_); rintro e w' ⟨rfl, ⟨nd, rfl⟩⟩; refine ⟨_, rfl, ?_⟩))
 go_ret
 exact ⟨rr_, ab23_⟩
theorem impl_ExprValid.mono : ∀ a0 a1 a2 k, LeO (impl_ExprValid.f k a0 a1 a2) (impl_ExprValid.f (k + 1) a0 a1 a2) := by
 intro a0 a1 a2 k
 unfold impl_ExprValid.f
 repeat' first
   | (with_reducible exact impl_exprValid.mono _ _ _ _ _)
   | (with_reducible exact LeO.refl _)
   | (with_reducible exact LeO.none _)
   | (with_reducible refine LeO.ite ?_ ?_)
   | (with_reducible refine LeO.bind ?_ (fun _ => ?_))
theorem impl_ExprValid.calls (k : Nat) (a0_0 : Int) (a0_1 : Int) (A0_2 : Option Addr) (c0_2 : Nat) (l0_2 : List (S32)) (r : Bool) (w : World) (hr0_2 : Kd.C k32 w A0_2 l0_2.length l0_2) (hc0_2 : l0_2.length ≤ c0_2) (h : impl_ExprValid.f k a0_0 a0_1 l0_2 = some r) :
  Calls Try.prog 114 #[.agg #[.int .i64 a0_0, .int .i64 a0_1, .slice A0_2 l0_2.length c0_2]] w fun e w' => e = .returned (.bool r) ∧ Below w.heap.size w w' := by
 have hu32 := Try.underlying32
 have HR0_2 := am hr0_2
 have HC0_2 := am hc0_2
 clear hr0_2 hc0_2
 have HB := am (Below.refl w.heap.size w)
 have H : ((impl_exprValid.f k a0_0 a0_1 l0_2 5).bind fun t517 => (some t517)) = some r := h
 clear h
 obtain ⟨t517, A20, H⟩ := bsm H
 (try dsimp only at H)
 have A2 := am A20
 clear A20
 obtain rfl := Option.some.inj H
 go_enter Try.func114, Try.ntmps114
 go_wp2_with (first | ((with_reducible refine gate_dst (N := 1) rfl ?_); refine box_event rfl (N := 1) rfl (cs := #[.int .i64 a0_0, .int .i64 a0_1, .slice A0_2 l0_2.length c0_2]) (t := 32) rn_ ?_; intro gb516 hg w3 hbox hb; have BK516 := am (hbox); have GW516 := am ((by rw [hg]; exact (below_size ab2_) : w.heap.size ≤ gb516)); have GE516 := am ((by rw [hg]; exact (below_size ab2_) : w.heap.size ≤ gb516)); replace HB := am (below_step ab2_ hb); clear hb hbox hg; obtain ⟨hcz4_0, hcz4_1, hcz4_2, hfz4_0, hfz4_1, hfz4_2⟩ := bcf3_ BK516.out) | ((with_reducible refine gate_callee (f := 124) rfl ?_); refine goesL_ (some 4) rfl rfl Try.func124 (by kernel_rfl) rfl #[.agg #[.int .i64 a0_0, .int .i64 a0_1, .slice A0_2 l0_2.length c0_2], .int .i64 5] rfl ab1_ ?_; (with_reducible refine (impl_exprValid.calls k a0_0 a0_1 _ _ l0_2 5 t517 _ (aC_ (Kd.C_below HR0_2.out HB.out)) HC0_2.out A2.out).mono ?_); rintro e w5 ⟨rfl, hb⟩; refine ⟨_, rfl, ?_⟩; replace BK516 := am (bbl_ BK516.out hb); replace HB := am (below_step ab82_ hb); (try clear hb); (try clear hb2); (try clear hk); (try clear hi)))
 go_ret
 exact ⟨rr_, ab82_⟩
theorem impl_stmtValid_1.calls (n limit : Int) (needed : Bool) (w : World) :
  Calls Try.prog 113 #[.int .i64 n, .int .i64 limit, .bool needed] w fun e w' => e = .returned (.bool (inr n limit needed)) ∧ Drawn0 w w' := by
 by_cases h0 : n = 0
 ·subst h0
  go_enter Try.func113, Try.ntmps113
  go_wp2
  go_ret
  exact ⟨by simp [inr], ab18_⟩
 have h0b : (n == 0) = false := beq_eq_false_iff_ne.mpr h0
 cases needed with
 | false =>
  go_enter Try.func113, Try.ntmps113
  go_wp2
  go_ret
  exact ⟨by simp [inr, h0], ab18_⟩
 | true =>
  by_cases h1 : 0 < n
  ·have h1b : decide (0 < n) = true := decide_eq_true h1
   by_cases h2 : n < limit
   ·have h2b : decide (n < limit) = true := decide_eq_true h2
    go_enter Try.func113, Try.ntmps113
    go_wp2
    go_ret
    exact ⟨by simp [inr, h0]; omega, ab18_⟩
   have h2b : decide (n < limit) = false := decide_eq_false h2
   go_enter Try.func113, Try.ntmps113
   go_wp2
   go_ret
   exact ⟨by simp [inr, h0]; omega, ab18_⟩
  have h1b : decide (0 < n) = false := decide_eq_false h1
  go_enter Try.func113, Try.ntmps113
  go_wp2
  go_ret
  exact ⟨by simp [inr, h0]; omega, ab18_⟩
theorem inr_calls {n limit : Int} {needed b : Bool} (w : World) (h : inr n limit needed = b) :
  Calls Try.prog 113 #[.int .i64 n, .int .i64 limit, .bool needed] w fun e w' => e = .returned (.bool b) ∧ Drawn0 w w' := h ▸ impl_stmtValid_1.calls n limit needed w
theorem stv_rest.mono : ∀ nv nb ne nd no va bx op n la lb le boxes k, LeO (stv_rest k nv nb ne nd no va bx op n la lb le boxes) (stv_rest (k + 1) nv nb ne nd no va bx op n la lb le boxes) := by
 intro nv nb ne nd no va bx op n la lb le boxes k
 unfold stv_rest
 repeat' first
 | (with_reducible exact LeO.refl _)
 | (with_reducible exact impl_ExprValid.mono _ _ _ _)
 | (with_reducible refine LeO.ite ?_ ?_)
 | (with_reducible refine LeO.bind ?_ (fun _ => ?_))
theorem impl_stmtValid.mono : ∀ kd va bx op n la lb le boxes k, LeO (impl_stmtValid.f k kd va bx op n la lb le boxes) (impl_stmtValid.f (k + 1) kd va bx op n la lb le boxes) := by
 intro kd va bx op n la lb le boxes k
 unfold impl_stmtValid.f
 repeat' first
 | (with_reducible exact LeO.refl _)
 | (with_reducible exact stv_rest.mono _ _ _ _ _ _ _ _ _ _ _ _ _ _)
 | (with_reducible refine LeO.ite ?_ ?_)
attribute [local irreducible] inr
theorem impl_stmtValid.callsP (k : Nat) (g : Addr) (kd va bx op n : Int) (Aa : Option Addr) (ca : Nat) (la : List S32) (Ab : Option Addr) (lb cb : Nat) (Ae : Option Addr) (le ce : Nat) (boxes : Int) (r : Bool) (w : World)
  (hg0 : w.cell? g = some (.int .i64 kd)) (hg1 : w.cell? ⟨g.block, g.off + 1, none⟩ = some (.int .i64 va)) (hg2 : w.cell? ⟨g.block, g.off + 2, none⟩ = some (.int .i64 bx))
  (hg3 : w.cell? ⟨g.block, g.off + 3, none⟩ = some (.int .i64 op)) (hg4 : w.cell? ⟨g.block, g.off + 4, none⟩ = some (.int .i64 n)) (hg5 : w.cell? ⟨g.block, g.off + 5, none⟩ = some (.slice Aa la.length ca))
  (hg6 : w.cell? ⟨g.block, g.off + 6, none⟩ = some (.slice Ab lb cb)) (hg7 : w.cell? ⟨g.block, g.off + 7, none⟩ = some (.slice Ae le ce))
  (hr : Kd.C k32 w Aa la.length la) (hc : la.length ≤ ca) (h : impl_stmtValid.f k kd va bx op n la lb le boxes = some r) :
  Calls Try.prog 97 #[.pointer (some g), .int .i64 boxes] w fun e w' => e = .returned (.bool r) ∧ Below w.heap.size w w' := by
 have HR := am hr
 have HC := am hc
 have HH := am h
 clear hr hc h
 go_enter Try.func97, Try.ntmps97
 go_upto_region 2 with (first | ((with_reducible refine gate_dst (N := 5) rfl ?_); refine box_event (N := 5) rfl rfl (cs := #[.bool false, .bool false, .bool false, .bool false, .bool false]) (t := 124) rn_ ?_; intro gb hg w1 hbox hb) | fail)
 have k0 := pw_cell_below hb hg0
 have z0 := blk_cell hbox 0
 have z1 := blk_cell hbox 1
 have z2 := blk_cell hbox 2
 have z3 := blk_cell hbox 3
 have z4 := blk_cell hbox 4
 have f0 := blk_frozen hbox 0
 have f1 := blk_frozen hbox 1
 have f2 := blk_frozen hbox 2
 have f3 := blk_frozen hbox 3
 have f4 := blk_frozen hbox 4
 have HBX := am hbox
 have HB := am hb
 have HG := am (Nat.le_of_eq hg.symm)
 clear hbox hb hg
 go_upto_block 0 with fail
 go_cut [4, 5] from 7 (fun v4 v5 wc => ∃ nv nb ne nd no, v5 = .pointer (some ⟨gb, 0, none⟩) ∧ Aside0 (stv_rest k nv nb ne nd no va bx op n la lb le boxes = some r) ∧ Aside0 (wc.heap[gb]? = some (.cells #[.bool nv, .bool nb, .bool ne, .bool nd, .bool no] 124 (0, 0))) ∧ Aside0 (Below w.heap.size w wc))
 case first =>
  have H := HH.out
  clear HH
  unfold impl_stmtValid.f at H
  by_cases c1 : kd = 1
  ·rw [if_pos c1] at H
   subst c1
   have H' := am H
   clear H
   go_wp2
   go_meet
   case rel => exact ⟨true, false, true, false, false, rfl, H', ⟨(blk_put (blk_put HBX.out 0 (.bool true) (by rfl)) 2 (.bool true) (by rfl))⟩, ⟨(below_set (below_set HB.out HG.out) HG.out)⟩⟩
  rw [if_neg c1] at H
  have d1 : (kd == 1) = false := beq_eq_false_iff_ne.mpr c1
  by_cases c2 : kd = 2
  ·rw [if_pos c2] at H
   subst c2
   have H' := am H
   clear H
   go_wp2
   go_meet
   case rel => exact ⟨false, false, true, true, true, rfl, H', ⟨(blk_put (blk_put (blk_put HBX.out 2 (.bool true) (by rfl)) 3 (.bool true) (by rfl)) 4 (.bool true) (by rfl))⟩, ⟨(below_set (below_set (below_set HB.out HG.out) HG.out) HG.out)⟩⟩
  rw [if_neg c2] at H
  have d2 : (kd == 2) = false := beq_eq_false_iff_ne.mpr c2
  by_cases c3 : kd = 3
  ·rw [if_pos c3] at H
   subst c3
   have H' := am H
   clear H
   go_wp2
   go_meet
   case rel => exact ⟨false, false, true, true, false, rfl, H', ⟨(blk_put (blk_put HBX.out 2 (.bool true) (by rfl)) 3 (.bool true) (by rfl))⟩, ⟨(below_set (below_set HB.out HG.out) HG.out)⟩⟩
  rw [if_neg c3] at H
  have d3 : (kd == 3) = false := beq_eq_false_iff_ne.mpr c3
  by_cases c4 : kd = 4
  ·rw [if_pos c4] at H
   subst c4
   have H' := am H
   clear H
   go_wp2
   go_meet
   case rel => exact ⟨false, true, true, false, false, rfl, H', ⟨(blk_put (blk_put HBX.out 1 (.bool true) (by rfl)) 2 (.bool true) (by rfl))⟩, ⟨(below_set (below_set HB.out HG.out) HG.out)⟩⟩
  rw [if_neg c4] at H
  have d4 : (kd == 4) = false := beq_eq_false_iff_ne.mpr c4
  by_cases c5 : kd = 5
  ·rw [if_pos c5] at H
   subst c5
   have H' := am H
   clear H
   go_wp2
   go_meet
   case rel => exact ⟨true, true, false, false, false, rfl, H', ⟨(blk_put (blk_put HBX.out 1 (.bool true) (by rfl)) 0 (.bool true) (by rfl))⟩, ⟨(below_set (below_set HB.out HG.out) HG.out)⟩⟩
  rw [if_neg c5] at H
  have d5 : (kd == 5) = false := beq_eq_false_iff_ne.mpr c5
  by_cases c7 : kd = 7
  ·rw [if_pos c7] at H
   subst c7
   have H' := am H
   clear H
   go_wp2
   go_meet
   case rel => exact ⟨false, false, true, false, false, rfl, H', ⟨(blk_put HBX.out 2 (.bool true) (by rfl))⟩, ⟨(below_set HB.out HG.out)⟩⟩
  rw [if_neg c7] at H
  have d7 : (kd == 7) = false := beq_eq_false_iff_ne.mpr c7
  by_cases c6 : kd = 6
  ·rw [if_pos c6] at H
   subst c6
   have H' := am H
   clear H
   go_wp2
   go_meet
   case rel => exact ⟨false, false, false, false, false, rfl, H', ⟨HBX.out⟩, ⟨HB.out⟩⟩
  rw [if_neg c6] at H
  have d6 : (kd == 6) = false := beq_eq_false_iff_ne.mpr c6
  obtain rfl := Option.some.inj H
  go_wp2
  go_ret
  exact ⟨rfl, HB.out⟩
 case rest =>
  obtain ⟨nv, nb, ne, nd, no, rfl, HA, HX, HW⟩ := hcut
  have k1 := pw_cell_below HW.out hg1
  have k2 := pw_cell_below HW.out hg2
  have k3 := pw_cell_below HW.out hg3
  have k4 := pw_cell_below HW.out hg4
  have k5 := pw_cell_below HW.out hg5
  have k6 := pw_cell_below HW.out hg6
  have k7 := pw_cell_below HW.out hg7
  have y0 : wc.cell? ⟨gb, 0, none⟩ = some (.bool nv) := blk_cell HX.out 0
  have y1 : wc.cell? ⟨gb, 1, none⟩ = some (.bool nb) := blk_cell HX.out 1
  have y2 : wc.cell? ⟨gb, 2, none⟩ = some (.bool ne) := blk_cell HX.out 2
  have y3 : wc.cell? ⟨gb, 3, none⟩ = some (.bool nd) := blk_cell HX.out 3
  have y4 : wc.cell? ⟨gb, 4, none⟩ = some (.bool no) := blk_cell HX.out 4
  clear k0 z0 z1 z2 z3 z4 f0 f1 f2 f3 f4 HBX HB hg0 hg1 hg2 hg3 hg4 hg5 hg6 hg7 HH
  go_upto_region 18 with fail
  (try simp only [Act.put, List.setIfInBounds_toArray, List.set_cons_zero, List.set_cons_succ])
  go_cut [69] from 37 (fun v69 wc_ => ∃ (x : Bool), v69 = .bool x ∧ Aside0 (∃ m, wc_ = wc.drewN m) ∧ Aside0 (if x = true then r = false else (if ne = true then ((impl_ExprValid.f k op n la).bind fun t => if t = true then some ((nd || lb == 0) && (no || le == 0)) else some false) else (if op = 0 then (if n = 0 then (if 0 < (la.length : Int) then some false else some ((nd || lb == 0) && (no || le == 0))) else some false) else some false)) = some r))
  case first =>
   have H := HA.out
   clear HA
   unfold stv_rest at H
   by_cases i1 : inr va 4 nv = true
   ·rw [if_pos i1] at H
    by_cases i2 : inr bx boxes nb = true
    ·rw [if_pos i2] at H
     have I1 := am i1
     have I2 := am i2
     clear i1 i2
     by_cases i3 : nb = true ∧ boxes ≤ bx
     ·rw [if_pos i3] at H
      obtain ⟨i4, i5⟩ := i3
      subst i4
      have i6 := eq_true i5
      have H' := am (Option.some.inj H)
      clear H i5
      go_big_quiet (first | (with_reducible refine Calls.quiet_of ((inr_calls _ I1.out).mono (fun e w' hq => ⟨hq.1, hq.2.out⟩))) | (with_reducible refine Calls.quiet_of ((inr_calls _ I2.out).mono (fun e w' hq => ⟨hq.1, hq.2.out⟩))))
      go_wp2
      go_meet
      case rel => exact ⟨true, rfl, ⟨_, rfl⟩, ⟨by rw [if_pos rfl]; exact H'.out.symm⟩⟩
     rw [if_neg i3] at H
     have H' := am H
     clear H
     cases nb with
     | false =>
      clear i3
      go_big_quiet (first | (with_reducible refine Calls.quiet_of ((inr_calls _ I1.out).mono (fun e w' hq => ⟨hq.1, hq.2.out⟩))) | (with_reducible refine Calls.quiet_of ((inr_calls _ I2.out).mono (fun e w' hq => ⟨hq.1, hq.2.out⟩))))
      go_wp2
      go_meet
      case rel => exact ⟨false, rfl, ⟨_, rfl⟩, ⟨by rw [if_neg (by decide)]; exact H'.out⟩⟩
     | true =>
      have i5 : ¬ boxes ≤ bx := fun h => i3 ⟨rfl, h⟩
      have i6 := eq_false i5
      clear i3 i5
      go_big_quiet (first | (with_reducible refine Calls.quiet_of ((inr_calls _ I1.out).mono (fun e w' hq => ⟨hq.1, hq.2.out⟩))) | (with_reducible refine Calls.quiet_of ((inr_calls _ I2.out).mono (fun e w' hq => ⟨hq.1, hq.2.out⟩))))
      go_wp2
      go_meet
      case rel => exact ⟨false, rfl, ⟨_, rfl⟩, ⟨by rw [if_neg (by decide)]; exact H'.out⟩⟩
    rw [if_neg i2] at H
    have I1 := am i1
    have I2 := am (Bool.eq_false_iff.mpr i2)
    clear i1 i2
    have H' := am (Option.some.inj H)
    clear H
    go_big_quiet (first | (with_reducible refine Calls.quiet_of ((inr_calls _ I1.out).mono (fun e w' hq => ⟨hq.1, hq.2.out⟩))) | (with_reducible refine Calls.quiet_of ((inr_calls _ I2.out).mono (fun e w' hq => ⟨hq.1, hq.2.out⟩))))
    go_wp2
    go_meet
    case rel => exact ⟨true, rfl, ⟨_, rfl⟩, ⟨by rw [if_pos rfl]; exact H'.out.symm⟩⟩
   rw [if_neg i1] at H
   have I1 := am (Bool.eq_false_iff.mpr i1)
   clear i1
   have H' := am (Option.some.inj H)
   clear H
   go_big_quiet (first | (with_reducible refine Calls.quiet_of ((inr_calls _ I1.out).mono (fun e w' hq => ⟨hq.1, hq.2.out⟩))))
   go_wp2
   go_meet
   case rel => exact ⟨true, rfl, ⟨_, rfl⟩, ⟨by rw [if_pos rfl]; exact H'.out.symm⟩⟩
  case rest =>
   clear HA
   obtain ⟨x, rfl, ⟨m, rfl⟩, HA⟩ := hcut
   cases x with
   | true =>
    have HA' := HA.out
    rw [if_pos rfl] at HA'
    subst HA'
    clear HA
    go_wp2
    go_ret
    exact ⟨rfl, pw_below_drewN HW.out _⟩
   | false =>
    have H := HA.out
    rw [if_neg (by decide)] at H
    clear HA
    go_upto_region 20 with fail
    (try simp only [Act.put, List.setIfInBounds_toArray, List.set_cons_zero, List.set_cons_succ])
    go_cut [109] from 70 (fun v109 wd => ∃ (x : Bool), v109 = .bool x ∧ Aside0 (Below w.heap.size w wd) ∧ Aside0 (Below wc.heap.size wc wd) ∧ Aside0 (if x = true then r = false else ((nd || lb == 0) && (no || le == 0)) = r))
    case first =>
     cases ne with
     | true =>
      rw [if_pos rfl] at H
      obtain ⟨t, ht, H⟩ := bsm H
      have HE := am ht
      have HR1 := am (Kd.C_below HR.out HW.out)
      clear ht
      cases t with
      | true =>
       rw [if_pos rfl] at H
       have H' := am (Option.some.inj H)
       clear H
       go_wp2_with (first | ((with_reducible refine (impl_ExprValid.calls k op n Aa ca la _ _ ?side1 HC.out HE.out).mono ?_); (case side1 => repeat (first | exact HR1.out | (with_reducible refine Kd.C_drewN ?_ _) | (with_reducible refine Kd.C_drew ?_))); rintro e wq ⟨rfl, hb⟩; have y2q : wq.cell? ⟨gb, 2, none⟩ = some (.bool true) := pw_cell_below (w := wc.drewN m) hb y2; have HBE := am (show Below wc.heap.size wc wq from (pw_below_drewN (Below.refl _ _) m).trans hb); clear hb; (try dsimp only)) | fail)
       go_meet
       case rel => exact ⟨false, rfl, ⟨below_step HW.out HBE.out⟩, ⟨HBE.out⟩, ⟨by rw [if_neg (by decide)]; exact H'.out⟩⟩
      | false =>
       rw [if_neg (by decide)] at H
       have H' := am (Option.some.inj H)
       clear H
       go_wp2_with (first | ((with_reducible refine (impl_ExprValid.calls k op n Aa ca la _ _ ?side1 HC.out HE.out).mono ?_); (case side1 => repeat (first | exact HR1.out | (with_reducible refine Kd.C_drewN ?_ _) | (with_reducible refine Kd.C_drew ?_))); rintro e wq ⟨rfl, hb⟩; have y2q : wq.cell? ⟨gb, 2, none⟩ = some (.bool true) := pw_cell_below (w := wc.drewN m) hb y2; have HBE := am (show Below wc.heap.size wc wq from (pw_below_drewN (Below.refl _ _) m).trans hb); clear hb; (try dsimp only)) | fail)
       go_meet
       case rel => exact ⟨true, rfl, ⟨below_step HW.out HBE.out⟩, ⟨HBE.out⟩, ⟨by rw [if_pos rfl]; exact H'.out.symm⟩⟩
     | false =>
      rw [if_neg (by decide)] at H
      by_cases j0 : op = 0
      ·rw [if_pos j0] at H
       by_cases j1 : n = 0
       ·rw [if_pos j1] at H
        subst j0
        subst j1
        by_cases j2 : 0 < (la.length : Int)
        ·rw [if_pos j2] at H
         have H' := am (Option.some.inj H)
         clear H
         have j3 := eq_true j2
         have j4 : (0 < la.length) = True := eq_true (by omega)
         clear j2
         go_wp2
         go_meet
         case rel => exact ⟨true, sd_, ⟨pw_below_drewN HW.out _⟩, ⟨pw_below_drewN (Below.refl _ _) _⟩, ⟨by rw [if_pos rfl]; exact H'.out.symm⟩⟩
        rw [if_neg j2] at H
        have H' := am (Option.some.inj H)
        clear H
        have j3 := eq_false j2
        have j4 : (0 < la.length) = False := eq_false (by omega)
        clear j2
        go_wp2
        go_meet
        case rel => exact ⟨false, sd_, ⟨pw_below_drewN HW.out _⟩, ⟨pw_below_drewN (Below.refl _ _) _⟩, ⟨by rw [if_neg (by decide)]; exact H'.out⟩⟩
       rw [if_neg j1] at H
       have H' := am (Option.some.inj H)
       clear H
       subst j0
       have j2 : (n != 0) = true := bne_iff_ne.mpr j1
       clear j1
       go_wp2
       go_meet
       case rel => exact ⟨true, sd_, ⟨pw_below_drewN HW.out _⟩, ⟨pw_below_drewN (Below.refl _ _) _⟩, ⟨by rw [if_pos rfl]; exact H'.out.symm⟩⟩
      rw [if_neg j0] at H
      have H' := am (Option.some.inj H)
      clear H
      have j2 : (op != 0) = true := bne_iff_ne.mpr j0
      clear j0
      go_wp2
      go_meet
      case rel => exact ⟨true, sd_, ⟨pw_below_drewN HW.out _⟩, ⟨pw_below_drewN (Below.refl _ _) _⟩, ⟨by rw [if_pos rfl]; exact H'.out.symm⟩⟩
    case rest =>
     clear H
     obtain ⟨x, rfl, HW2, HW3, HA⟩ := hcut
     cases x with
     | true =>
      have HA' := HA.out
      rw [if_pos rfl] at HA'
      subst HA'
      clear HA
      go_wp2
      go_ret
      exact ⟨rfl, HW2.out⟩
     | false =>
      have H := HA.out
      rw [if_neg (by decide)] at H
      subst H
      have k6' := pw_cell_below HW3.out k6
      have k7' := pw_cell_below HW3.out k7
      have y3' := pw_cell_below HW3.out y3
      have y4' := pw_cell_below HW3.out y4
      clear HA k1 k2 k3 k4 k5 k6 k7 y0 y1 y2 y3 y4
      by_cases q6 : lb = 0
      ·have p6 : ((lb : Int) == 0) = true := by rw [q6]; rfl
       by_cases q7 : le = 0
       ·have p7 : ((le : Int) == 0) = true := by rw [q7]; rfl
        have Q6 := am q6
        have Q7 := am q7
        clear q6 q7
        cases nd <;> cases no <;> (go_wp2; go_ret; exact ⟨by simp [Q6.out, Q7.out], HW2.out⟩)
       have p7 : ((le : Int) == 0) = false := beq_eq_false_iff_ne.mpr (by omega)
       have Q6 := am q6
       have Q7 := am q7
       clear q6 q7
       cases nd <;> cases no <;> (go_wp2; go_ret; exact ⟨by simp [Q6.out, Q7.out], HW2.out⟩)
      have p6 : ((lb : Int) == 0) = false := beq_eq_false_iff_ne.mpr (by omega)
      have Q6 := am q6
      clear q6
      cases nd with
      | false =>
       go_wp2
       go_ret
       exact ⟨by simp [Q6.out], HW2.out⟩
      | true =>
       by_cases q7 : le = 0
       ·have p7 : ((le : Int) == 0) = true := by rw [q7]; rfl
        have Q7 := am q7
        clear q7
        cases no <;> (go_wp2; go_ret; exact ⟨by simp [p7, Q7.out], HW2.out⟩)
       have p7 : ((le : Int) == 0) = false := beq_eq_false_iff_ne.mpr (by omega)
       have Q7 := am q7
       clear q7
       cases no <;> (go_wp2; go_ret; exact ⟨by simp [p7, Q7.out], HW2.out⟩)
theorem impl_blockValid.mono_l : ∀ k, (∀ y0 y1 y2 y3, LeO (impl_blockValid.f k y0 y1 y2 y3) (impl_blockValid.f (k + 1) y0 y1 y2 y3)) ∧ (∀ y0 y1 y2 y3 y4, LeO (impl_blockValid.l0 k y0 y1 y2 y3 y4) (impl_blockValid.l0 (k + 1) y0 y1 y2 y3 y4))
 | 0 => ⟨fun _ _ _ _ r h => by simp [impl_blockValid.f] at h, fun _ _ _ _ _ r h => by simp [impl_blockValid.l0] at h⟩
 | k + 1 => by
  obtain ⟨ih0, ih1⟩ := impl_blockValid.mono_l k
  refine ⟨?_, ?_⟩
  ·intro y0 y1 y2 y3
   unfold impl_blockValid.f
   repeat' first
   | (with_reducible exact ih0 _ _ _ _)
   | (with_reducible exact ih1 _ _ _ _ _)
   | (with_reducible exact impl_stmtValid.mono _ _ _ _ _ _ _ _ _ _)
   | (with_reducible exact LeO.refl _)
   | (with_reducible exact LeO.none _)
   | (with_reducible refine LeO.ite ?_ ?_)
   | (with_reducible refine LeO.bind ?_ (fun _ => ?_))
  ·intro y0 y1 y2 y3 y4
   unfold impl_blockValid.l0
   repeat' first
   | (with_reducible exact ih0 _ _ _ _)
   | (with_reducible exact ih1 _ _ _ _ _)
   | (with_reducible exact impl_stmtValid.mono _ _ _ _ _ _ _ _ _ _)
   | (with_reducible exact LeO.refl _)
   | (with_reducible exact LeO.none _)
   | (with_reducible refine LeO.ite ?_ ?_)
   | (with_reducible refine LeO.bind ?_ (fun _ => ?_))
theorem impl_blockValid.mono : ∀ a0 a1 a2 a3 k, LeO (impl_blockValid.f k a0 a1 a2 a3) (impl_blockValid.f (k + 1) a0 a1 a2 a3) := by
 intro a0 a1 a2 a3 k
 obtain ⟨ih0, ih1⟩ := impl_blockValid.mono_l k
 exact ih0 a0 a1 a2 a3
theorem atF_T35 {w : World} {ok : Nat → Prop} {A : Option Addr} {n : Nat} {xs : List S35} (h : Kd.F k35 w ok A n xs) (i : Int) (h0 : 0 ≤ i) (h1 : i < n) :
  ∃ ad A5 c5 A6 c6 A7 c7, A = some ad ∧ w.cell? (ad.add (i.toNat * 8)) = some (.int .i64 (rd_T35 xs i).f0) ∧ w.cell? ⟨(ad.add (i.toNat * 8)).block, (ad.add (i.toNat * 8)).off + 1, none⟩ = some (.int .i64 (rd_T35 xs i).f1) ∧ w.cell? ⟨(ad.add (i.toNat * 8)).block, (ad.add (i.toNat * 8)).off + 2, none⟩ = some (.int .i64 (rd_T35 xs i).f2) ∧ w.cell? ⟨(ad.add (i.toNat * 8)).block, (ad.add (i.toNat * 8)).off + 3, none⟩ = some (.int .i64 (rd_T35 xs i).f3.f0) ∧ w.cell? ⟨(ad.add (i.toNat * 8)).block, (ad.add (i.toNat * 8)).off + 4, none⟩ = some (.int .i64 (rd_T35 xs i).f3.f1) ∧ w.cell? ⟨(ad.add (i.toNat * 8)).block, (ad.add (i.toNat * 8)).off + 5, none⟩ = some (.slice A5 (rd_T35 xs i).f3.f2.length c5) ∧ w.cell? ⟨(ad.add (i.toNat * 8)).block, (ad.add (i.toNat * 8)).off + 6, none⟩ = some (.slice A6 (rd_T35 xs i).f4.length c6) ∧ w.cell? ⟨(ad.add (i.toNat * 8)).block, (ad.add (i.toNat * 8)).off + 7, none⟩ = some (.slice A7 (rd_T35 xs i).f5.length c7) ∧ (rd_T35 xs i).f3.f2.length ≤ c5 ∧ Kd.F k32 w ok A5 (rd_T35 xs i).f3.f2.length (rd_T35 xs i).f3.f2 ∧ (rd_T35 xs i).f4.length ≤ c6 ∧ Kd.F k35 w ok A6 (rd_T35 xs i).f4.length (rd_T35 xs i).f4 ∧ (rd_T35 xs i).f5.length ≤ c7 ∧ Kd.F k35 w ok A7 (rd_T35 xs i).f5.length (rd_T35 xs i).f5 := by
 obtain ⟨ad, c, e, _, hK, hc0, _⟩ := Kd.F_get h z35 i h0 h1
 have hc : ∀ j u, c[j]? = some u → w.cell? (ad.add (i.toNat * 8 + j)) = some u := hc0
 obtain ⟨A5, c5, A6, c6, A7, c7, rfl, l5, g5, l6, g6, l7, g7⟩ := k35_openF hK
 exact ⟨ad, A5, c5, A6, c6, A7, c7, e, hc 0 _ rfl, by rw [← add_field _ _ 1 (by omega)]; exact hc 1 _ rfl, by rw [← add_field _ _ 2 (by omega)]; exact hc 2 _ rfl, by rw [← add_field _ _ 3 (by omega)]; exact hc 3 _ rfl, by rw [← add_field _ _ 4 (by omega)]; exact hc 4 _ rfl, by rw [← add_field _ _ 5 (by omega)]; exact hc 5 _ rfl, by rw [← add_field _ _ 6 (by omega)]; exact hc 6 _ rfl, by rw [← add_field _ _ 7 (by omega)]; exact hc 7 _ rfl, l5, g5, l6, g6, l7, g7⟩
theorem cell_keep {w w1 : World} {g : Nat} {a : Addr} {v : Value} (hk : KeepBut w w1 g none) (h : w.cell? a = some v) (hne : a.block ≠ g) : w1.cell? a = some v :=
 (World.cell?_of_block (w := w) (hk.2 a.block (World.block_lt_of_cell? w a h) hne (by simp))).trans h
theorem impl_blockValid.callsP (k : Nat) : ∀ (A : Option Addr) (c : Nat) (l : List S35) (boxes blocks cnt : Int) (gc B : Nat) (ok : Nat → Prop) (r : Bool) (cnt' : Int) (w : World)
  (hF : Kd.F k35 w ok A l.length l) (hc : l.length ≤ c) (hno : ¬ ok gc) (hB : B ≤ gc) (hb : w.heap[gc]? = some (.cells #[.int .i64 cnt] 3 (0, 0))) (h : impl_blockValid.f k l boxes blocks cnt = some (r, cnt')),
  Calls Try.prog 82 #[.slice A l.length c, .int .i64 boxes, .int .i64 blocks, .pointer (some ⟨gc, 0, none⟩)] w fun e w' => e = .returned (.bool r) ∧ w'.heap[gc]? = some (.cells #[.int .i64 cnt'] 3 (0, 0)) ∧ KeepBut w w' gc none ∧ Below B w w' := by
 induction k using Nat.strongRecOn with
 | _ k ih =>
 intro A c l boxes blocks cnt gc B ok r cnt' w hF hc hno hB hb h
 cases k with
 | zero => exact absurd h (by simp [impl_blockValid.f])
 | succ k =>
 simp only [impl_blockValid.f] at h
 have HF := am hF
 have HC := am hc
 have HNO := am hno
 have HGB := am hB
 have HBX := am hb
 have z0 : w.cell? ⟨gc, 0, none⟩ = some (.int .i64 cnt) := blk_cell hb 0
 have f0 := blk_frozen hb 0
 have HB1 := am (blk_put (cs' := #[.int .i64 (wrap64 (cnt + (l.length : Int)))]) hb 0 (.int .i64 (wrap64 (cnt + (l.length : Int)))) rfl)
 have HK1 := am (KeepBut.set_ (KeepBut.refl w gc none) 0 (.int .i64 (wrap64 (cnt + (l.length : Int)))))
 have HW1 := am (Below.setCell (p := ⟨gc, 0, none⟩) (Below.refl B w) hB (.int .i64 (wrap64 (cnt + (l.length : Int)))))
 clear hF hc hno hb hB
 by_cases c0 : 16 < wrap64 (cnt + (l.length : Int))
 ·rw [if_pos c0] at h
  have h1 := Option.some.inj h
  injection h1 with h1 h2
  subst h1
  subst h2
  have c0b : decide (16 < wrap64 (cnt + (l.length : Int))) = true := decide_eq_true c0
  clear h
  go_enter Try.func82, Try.ntmps82
  go_wp2
  go_ret
  exact ⟨rfl, HB1.out, HK1.out, HW1.out⟩
 rw [if_neg c0] at h
 have c0b : decide (16 < wrap64 (cnt + (l.length : Int))) = false := decide_eq_false c0
 have H' := am h
 clear h
 go_enter Try.func82, Try.ntmps82
 go_wp2
 go_loopg [24] k (fun kq v24 w' => ∃ (i cq : Int), v24 = .int .i64 i ∧ Aside0 (impl_blockValid.l0 kq l boxes blocks i cq = some (r, cnt')) ∧ Aside0 (kq ≤ k) ∧ Aside0 (w'.heap[gc]? = some (.cells #[.int .i64 cq] 3 (0, 0))) ∧ Aside0 (KeepBut w w' gc none) ∧ Aside0 (Below B w w'))
 case atStart => exact ⟨0, _, rfl, H', ⟨Nat.le_refl _⟩, HB1, HK1, HW1⟩
 case round =>
  obtain ⟨i, cq, rfl, HA, HK, HBQ, HKQ, HWQ⟩ := hrel
  cases gk with
  | zero => exact absurd HA.out (by simp [impl_blockValid.l0])
  | succ k1 =>
   have H := HA.out
   clear HA
   simp only [impl_blockValid.l0] at H
   by_cases c1 : i < (l.length : Int)
   ·rw [if_pos c1] at H
    by_cases c2 : 0 ≤ i
    ·rw [if_pos c2] at H
     obtain ⟨t, ht, H⟩ := bsm H
     have hF' := Kd.F_step HF.out (fun q hq hlt => HKQ.out.2 q hlt (fun e => HNO.out (e ▸ hq)) (by simp))
     obtain ⟨ad, A5, c5, A6, c6, A7, c7, rfl, x0, x1, x2, x3, x4, x5, x6, x7, l5, g5, l6, g6, l7, g7⟩ := atF_T35 hF' i c2 c1
     obtain ⟨ad_, cs_, e_, _, _, _, okad⟩ := Kd.F_get hF' z35 i c2 c1
     cases e_
     have NE7 := am (show (ad.add (i.toNat * 8)).block ≠ gc from fun e => HNO.out (e ▸ (add_block ad _).symm ▸ okad (by decide)))
     clear okad
     have HT := am ht
     have c1b : decide (i < (l.length : Int)) = true := decide_eq_true c1
     have p0 := eq_true c2
     have p1 := eq_true c1
     have G5 := am (Kd.F_now g5)
     have L5 := am l5
     have G6 := am g6
     have L6 := am l6
     have G7 := am g7
     have L7 := am l7
     clear ht hF' g5 l5 g6 l6 g7 l7 c1 c2 z0 f0
     cases t with
     | false =>
      rw [if_neg (by decide)] at H
      have h1 := Option.some.inj H
      injection h1 with h1 h2
      subst h1
      subst h2
      clear H
      go_wp2_with (first | ((with_reducible refine (impl_stmtValid.callsP k1 (ad.add (i.toNat * 8)) _ _ _ _ _ A5 c5 _ A6 _ c6 A7 _ c7 _ _ _ x0 x1 x2 x3 x4 x5 x6 x7 G5.out L5.out HT.out).mono ?_); rintro e wa ⟨rfl, hb⟩; have y0 := pw_cell_below hb x0; have y6 := pw_cell_below hb x6; have y7 := pw_cell_below hb x7; have BXA := am (blk_below HBQ.out hb); have KA := am (KeepBut.trans HKQ.out (KeepBut.of_below hb gc none) (.inl rfl)); have WA := am (HWQ.out.trans (hb.mono (Nat.le_of_lt (Nat.lt_of_le_of_lt HGB.out (blk_lt HBQ.out))))); have G6A := am (Kd.F_below G6.out hb); have G7A := am (Kd.F_below G7.out hb); clear hb; (try dsimp only)))
      go_ret
      exact ⟨rfl, BXA.out, KA.out, WA.out⟩
     | true =>
      rw [if_pos rfl] at H
      by_cases c3 : 3 < blocks
      ·rw [if_pos c3] at H
       have c3b : decide (3 < blocks) = true := decide_eq_true c3
       have h1 := Option.some.inj H
       injection h1 with h1 h2
       subst h1
       subst h2
       clear H
       go_wp2_with (first | ((with_reducible refine (impl_stmtValid.callsP k1 (ad.add (i.toNat * 8)) _ _ _ _ _ A5 c5 _ A6 _ c6 A7 _ c7 _ _ _ x0 x1 x2 x3 x4 x5 x6 x7 G5.out L5.out HT.out).mono ?_); rintro e wa ⟨rfl, hb⟩; have y0 := pw_cell_below hb x0; have y6 := pw_cell_below hb x6; have y7 := pw_cell_below hb x7; have BXA := am (blk_below HBQ.out hb); have KA := am (KeepBut.trans HKQ.out (KeepBut.of_below hb gc none) (.inl rfl)); have WA := am (HWQ.out.trans (hb.mono (Nat.le_of_lt (Nat.lt_of_le_of_lt HGB.out (blk_lt HBQ.out))))); have G6A := am (Kd.F_below G6.out hb); have G7A := am (Kd.F_below G7.out hb); clear hb; (try dsimp only)))
       go_ret
       exact ⟨rfl, BXA.out, KA.out, WA.out⟩
      rw [if_neg c3] at H
      have c3b : decide (3 < blocks) = false := decide_eq_false c3
      by_cases c4 : (rd_T35 l i).f0 = 2 ∨ (rd_T35 l i).f0 = 3
      ·rw [if_pos c4] at H
       by_cases c5_ : 3 ≤ blocks
       ·rw [if_pos c5_] at H
        have c5b : decide (3 ≤ blocks) = true := decide_eq_true c5_
        clear c3 c5_
        have h1 := Option.some.inj H
        injection h1 with h1 h2
        subst h1
        subst h2
        clear H
        rcases c4 with c4 | c4
        ·have d2 : ((rd_T35 l i).f0 != 2) = false := bne_eq_false_iff_eq.mpr c4
         clear c4
         go_wp2_with (first | ((with_reducible refine (impl_stmtValid.callsP k1 (ad.add (i.toNat * 8)) _ _ _ _ _ A5 c5 _ A6 _ c6 A7 _ c7 _ _ _ x0 x1 x2 x3 x4 x5 x6 x7 G5.out L5.out HT.out).mono ?_); rintro e wa ⟨rfl, hb⟩; have y0 := pw_cell_below hb x0; have y6 := pw_cell_below hb x6; have y7 := pw_cell_below hb x7; have BXA := am (blk_below HBQ.out hb); have KA := am (KeepBut.trans HKQ.out (KeepBut.of_below hb gc none) (.inl rfl)); have WA := am (HWQ.out.trans (hb.mono (Nat.le_of_lt (Nat.lt_of_le_of_lt HGB.out (blk_lt HBQ.out))))); have G6A := am (Kd.F_below G6.out hb); have G7A := am (Kd.F_below G7.out hb); clear hb; (try dsimp only)))
         go_ret
         exact ⟨rfl, BXA.out, KA.out, WA.out⟩
        ·have d2 : ((rd_T35 l i).f0 != 2) = true := bne_iff_ne.mpr (by omega)
         have d3 : ((rd_T35 l i).f0 != 3) = false := bne_eq_false_iff_eq.mpr c4
         clear c4
         go_wp2_with (first | ((with_reducible refine (impl_stmtValid.callsP k1 (ad.add (i.toNat * 8)) _ _ _ _ _ A5 c5 _ A6 _ c6 A7 _ c7 _ _ _ x0 x1 x2 x3 x4 x5 x6 x7 G5.out L5.out HT.out).mono ?_); rintro e wa ⟨rfl, hb⟩; have y0 := pw_cell_below hb x0; have y6 := pw_cell_below hb x6; have y7 := pw_cell_below hb x7; have BXA := am (blk_below HBQ.out hb); have KA := am (KeepBut.trans HKQ.out (KeepBut.of_below hb gc none) (.inl rfl)); have WA := am (HWQ.out.trans (hb.mono (Nat.le_of_lt (Nat.lt_of_le_of_lt HGB.out (blk_lt HBQ.out))))); have G6A := am (Kd.F_below G6.out hb); have G7A := am (Kd.F_below G7.out hb); clear hb; (try dsimp only)))
         go_ret
         exact ⟨rfl, BXA.out, KA.out, WA.out⟩
       rw [if_neg c5_] at H
       have c5b : decide (3 ≤ blocks) = false := decide_eq_false c5_
       clear c3 c5_
       obtain ⟨⟨r1, c1_⟩, hp, H⟩ := bsm H
       have HP := am hp
       clear hp
       cases r1 with
       | false =>
        rw [if_neg Bool.false_ne_true] at H
        have h1 := Option.some.inj H
        injection h1 with h1 h2
        subst h1
        subst h2
        clear H
        rcases c4 with c4 | c4
        ·have d2 : ((rd_T35 l i).f0 != 2) = false := bne_eq_false_iff_eq.mpr c4
         clear c4
         go_wp2_with (first | ((with_reducible refine (impl_stmtValid.callsP k1 (ad.add (i.toNat * 8)) _ _ _ _ _ A5 c5 _ A6 _ c6 A7 _ c7 _ _ _ x0 x1 x2 x3 x4 x5 x6 x7 G5.out L5.out HT.out).mono ?_); rintro e wa ⟨rfl, hb⟩; have y0 := pw_cell_below hb x0; have y6 := pw_cell_below hb x6; have y7 := pw_cell_below hb x7; have BXA := am (blk_below HBQ.out hb); have KA := am (KeepBut.trans HKQ.out (KeepBut.of_below hb gc none) (.inl rfl)); have WA := am (HWQ.out.trans (hb.mono (Nat.le_of_lt (Nat.lt_of_le_of_lt HGB.out (blk_lt HBQ.out))))); have G6A := am (Kd.F_below G6.out hb); have G7A := am (Kd.F_below G7.out hb); clear hb; (try dsimp only)) | ((with_reducible refine (ih k1 (by have := HK.out; omega) A6 c6 _ boxes (wrap64 (blocks + 1)) cq gc B ok _ _ _ G6A.out L6.out HNO.out HGB.out BXA.out HP.out).mono ?_); rintro e wb ⟨rfl, hx, hk, hw⟩; have ne7 := am hk; have u7 := cell_keep hk y7 NE7.out; have G7B := am (Kd.F_step G7A.out (fun q hq hlt => hk.2 q hlt (fun e => HNO.out (e ▸ hq)) (by simp))); have BXB := am hx; have KB := am (KeepBut.trans KA.out hk (.inl rfl)); have WB := am (WA.out.trans hw); clear hx hk hw; (try dsimp only)))
         go_ret
         exact ⟨rfl, BXB.out, KB.out, WB.out⟩
        ·have d2 : ((rd_T35 l i).f0 != 2) = true := bne_iff_ne.mpr (by omega)
         have d3 : ((rd_T35 l i).f0 != 3) = false := bne_eq_false_iff_eq.mpr c4
         clear c4
         go_wp2_with (first | ((with_reducible refine (impl_stmtValid.callsP k1 (ad.add (i.toNat * 8)) _ _ _ _ _ A5 c5 _ A6 _ c6 A7 _ c7 _ _ _ x0 x1 x2 x3 x4 x5 x6 x7 G5.out L5.out HT.out).mono ?_); rintro e wa ⟨rfl, hb⟩; have y0 := pw_cell_below hb x0; have y6 := pw_cell_below hb x6; have y7 := pw_cell_below hb x7; have BXA := am (blk_below HBQ.out hb); have KA := am (KeepBut.trans HKQ.out (KeepBut.of_below hb gc none) (.inl rfl)); have WA := am (HWQ.out.trans (hb.mono (Nat.le_of_lt (Nat.lt_of_le_of_lt HGB.out (blk_lt HBQ.out))))); have G6A := am (Kd.F_below G6.out hb); have G7A := am (Kd.F_below G7.out hb); clear hb; (try dsimp only)) | ((with_reducible refine (ih k1 (by have := HK.out; omega) A6 c6 _ boxes (wrap64 (blocks + 1)) cq gc B ok _ _ _ G6A.out L6.out HNO.out HGB.out BXA.out HP.out).mono ?_); rintro e wb ⟨rfl, hx, hk, hw⟩; have ne7 := am hk; have u7 := cell_keep hk y7 NE7.out; have G7B := am (Kd.F_step G7A.out (fun q hq hlt => hk.2 q hlt (fun e => HNO.out (e ▸ hq)) (by simp))); have BXB := am hx; have KB := am (KeepBut.trans KA.out hk (.inl rfl)); have WB := am (WA.out.trans hw); clear hx hk hw; (try dsimp only)))
         go_ret
         exact ⟨rfl, BXB.out, KB.out, WB.out⟩
       | true =>
        rw [if_pos rfl] at H
        obtain ⟨⟨r2, c2_⟩, hq, H⟩ := bsm H
        have HQ := am hq
        clear hq
        cases r2 with
        | false =>
         rw [if_neg Bool.false_ne_true] at H
         have h1 := Option.some.inj H
         injection h1 with h1 h2
         subst h1
         subst h2
         clear H
         rcases c4 with c4 | c4
         ·have d2 : ((rd_T35 l i).f0 != 2) = false := bne_eq_false_iff_eq.mpr c4
          clear c4
          go_wp2_with (first | ((with_reducible refine (impl_stmtValid.callsP k1 (ad.add (i.toNat * 8)) _ _ _ _ _ A5 c5 _ A6 _ c6 A7 _ c7 _ _ _ x0 x1 x2 x3 x4 x5 x6 x7 G5.out L5.out HT.out).mono ?_); rintro e wa ⟨rfl, hb⟩; have y0 := pw_cell_below hb x0; have y6 := pw_cell_below hb x6; have y7 := pw_cell_below hb x7; have BXA := am (blk_below HBQ.out hb); have KA := am (KeepBut.trans HKQ.out (KeepBut.of_below hb gc none) (.inl rfl)); have WA := am (HWQ.out.trans (hb.mono (Nat.le_of_lt (Nat.lt_of_le_of_lt HGB.out (blk_lt HBQ.out))))); have G6A := am (Kd.F_below G6.out hb); have G7A := am (Kd.F_below G7.out hb); clear hb; (try dsimp only)) | ((with_reducible refine (ih k1 (by have := HK.out; omega) A6 c6 _ boxes (wrap64 (blocks + 1)) cq gc B ok _ _ _ G6A.out L6.out HNO.out HGB.out BXA.out HP.out).mono ?_); rintro e wb ⟨rfl, hx, hk, hw⟩; have ne7 := am hk; have u7 := cell_keep hk y7 NE7.out; have G7B := am (Kd.F_step G7A.out (fun q hq hlt => hk.2 q hlt (fun e => HNO.out (e ▸ hq)) (by simp))); have BXB := am hx; have KB := am (KeepBut.trans KA.out hk (.inl rfl)); have WB := am (WA.out.trans hw); clear hx hk hw; (try dsimp only)) | ((with_reducible refine (ih k1 (by have := HK.out; omega) A7 c7 _ boxes (wrap64 (blocks + 1)) _ gc B ok _ _ _ G7B.out L7.out HNO.out HGB.out BXB.out HQ.out).mono ?_); rintro e wd ⟨rfl, hx, hk, hw⟩; have BXD := am hx; have KD := am (KeepBut.trans KB.out hk (.inl rfl)); have WD := am (WB.out.trans hw); clear hx hk hw; (try dsimp only)))
          go_ret
          exact ⟨rfl, BXD.out, KD.out, WD.out⟩
         ·have d2 : ((rd_T35 l i).f0 != 2) = true := bne_iff_ne.mpr (by omega)
          have d3 : ((rd_T35 l i).f0 != 3) = false := bne_eq_false_iff_eq.mpr c4
          clear c4
          go_wp2_with (first | ((with_reducible refine (impl_stmtValid.callsP k1 (ad.add (i.toNat * 8)) _ _ _ _ _ A5 c5 _ A6 _ c6 A7 _ c7 _ _ _ x0 x1 x2 x3 x4 x5 x6 x7 G5.out L5.out HT.out).mono ?_); rintro e wa ⟨rfl, hb⟩; have y0 := pw_cell_below hb x0; have y6 := pw_cell_below hb x6; have y7 := pw_cell_below hb x7; have BXA := am (blk_below HBQ.out hb); have KA := am (KeepBut.trans HKQ.out (KeepBut.of_below hb gc none) (.inl rfl)); have WA := am (HWQ.out.trans (hb.mono (Nat.le_of_lt (Nat.lt_of_le_of_lt HGB.out (blk_lt HBQ.out))))); have G6A := am (Kd.F_below G6.out hb); have G7A := am (Kd.F_below G7.out hb); clear hb; (try dsimp only)) | ((with_reducible refine (ih k1 (by have := HK.out; omega) A6 c6 _ boxes (wrap64 (blocks + 1)) cq gc B ok _ _ _ G6A.out L6.out HNO.out HGB.out BXA.out HP.out).mono ?_); rintro e wb ⟨rfl, hx, hk, hw⟩; have ne7 := am hk; have u7 := cell_keep hk y7 NE7.out; have G7B := am (Kd.F_step G7A.out (fun q hq hlt => hk.2 q hlt (fun e => HNO.out (e ▸ hq)) (by simp))); have BXB := am hx; have KB := am (KeepBut.trans KA.out hk (.inl rfl)); have WB := am (WA.out.trans hw); clear hx hk hw; (try dsimp only)) | ((with_reducible refine (ih k1 (by have := HK.out; omega) A7 c7 _ boxes (wrap64 (blocks + 1)) _ gc B ok _ _ _ G7B.out L7.out HNO.out HGB.out BXB.out HQ.out).mono ?_); rintro e wd ⟨rfl, hx, hk, hw⟩; have BXD := am hx; have KD := am (KeepBut.trans KB.out hk (.inl rfl)); have WD := am (WB.out.trans hw); clear hx hk hw; (try dsimp only)))
          go_ret
          exact ⟨rfl, BXD.out, KD.out, WD.out⟩
        | true =>
         rw [if_pos rfl] at H
         have H' := am H
         clear H
         rcases c4 with c4 | c4
         ·have d2 : ((rd_T35 l i).f0 != 2) = false := bne_eq_false_iff_eq.mpr c4
          clear c4
          go_wp2_with (first | ((with_reducible refine (impl_stmtValid.callsP k1 (ad.add (i.toNat * 8)) _ _ _ _ _ A5 c5 _ A6 _ c6 A7 _ c7 _ _ _ x0 x1 x2 x3 x4 x5 x6 x7 G5.out L5.out HT.out).mono ?_); rintro e wa ⟨rfl, hb⟩; have y0 := pw_cell_below hb x0; have y6 := pw_cell_below hb x6; have y7 := pw_cell_below hb x7; have BXA := am (blk_below HBQ.out hb); have KA := am (KeepBut.trans HKQ.out (KeepBut.of_below hb gc none) (.inl rfl)); have WA := am (HWQ.out.trans (hb.mono (Nat.le_of_lt (Nat.lt_of_le_of_lt HGB.out (blk_lt HBQ.out))))); have G6A := am (Kd.F_below G6.out hb); have G7A := am (Kd.F_below G7.out hb); clear hb; (try dsimp only)) | ((with_reducible refine (ih k1 (by have := HK.out; omega) A6 c6 _ boxes (wrap64 (blocks + 1)) cq gc B ok _ _ _ G6A.out L6.out HNO.out HGB.out BXA.out HP.out).mono ?_); rintro e wb ⟨rfl, hx, hk, hw⟩; have ne7 := am hk; have u7 := cell_keep hk y7 NE7.out; have G7B := am (Kd.F_step G7A.out (fun q hq hlt => hk.2 q hlt (fun e => HNO.out (e ▸ hq)) (by simp))); have BXB := am hx; have KB := am (KeepBut.trans KA.out hk (.inl rfl)); have WB := am (WA.out.trans hw); clear hx hk hw; (try dsimp only)) | ((with_reducible refine (ih k1 (by have := HK.out; omega) A7 c7 _ boxes (wrap64 (blocks + 1)) _ gc B ok _ _ _ G7B.out L7.out HNO.out HGB.out BXB.out HQ.out).mono ?_); rintro e wd ⟨rfl, hx, hk, hw⟩; have BXD := am hx; have KD := am (KeepBut.trans KB.out hk (.inl rfl)); have WD := am (WB.out.trans hw); clear hx hk hw; (try dsimp only)))
          go_roundg k1
          case measure => have := HK.out; omega
          case rel => exact ⟨wrap64 (i + 1), c2_, sd_, H', ⟨by have := HK.out; omega⟩, BXD, KD, WD⟩
         ·have d2 : ((rd_T35 l i).f0 != 2) = true := bne_iff_ne.mpr (by omega)
          have d3 : ((rd_T35 l i).f0 != 3) = false := bne_eq_false_iff_eq.mpr c4
          clear c4
          go_wp2_with (first | ((with_reducible refine (impl_stmtValid.callsP k1 (ad.add (i.toNat * 8)) _ _ _ _ _ A5 c5 _ A6 _ c6 A7 _ c7 _ _ _ x0 x1 x2 x3 x4 x5 x6 x7 G5.out L5.out HT.out).mono ?_); rintro e wa ⟨rfl, hb⟩; have y0 := pw_cell_below hb x0; have y6 := pw_cell_below hb x6; have y7 := pw_cell_below hb x7; have BXA := am (blk_below HBQ.out hb); have KA := am (KeepBut.trans HKQ.out (KeepBut.of_below hb gc none) (.inl rfl)); have WA := am (HWQ.out.trans (hb.mono (Nat.le_of_lt (Nat.lt_of_le_of_lt HGB.out (blk_lt HBQ.out))))); have G6A := am (Kd.F_below G6.out hb); have G7A := am (Kd.F_below G7.out hb); clear hb; (try dsimp only)) | ((with_reducible refine (ih k1 (by have := HK.out; omega) A6 c6 _ boxes (wrap64 (blocks + 1)) cq gc B ok _ _ _ G6A.out L6.out HNO.out HGB.out BXA.out HP.out).mono ?_); rintro e wb ⟨rfl, hx, hk, hw⟩; have ne7 := am hk; have u7 := cell_keep hk y7 NE7.out; have G7B := am (Kd.F_step G7A.out (fun q hq hlt => hk.2 q hlt (fun e => HNO.out (e ▸ hq)) (by simp))); have BXB := am hx; have KB := am (KeepBut.trans KA.out hk (.inl rfl)); have WB := am (WA.out.trans hw); clear hx hk hw; (try dsimp only)) | ((with_reducible refine (ih k1 (by have := HK.out; omega) A7 c7 _ boxes (wrap64 (blocks + 1)) _ gc B ok _ _ _ G7B.out L7.out HNO.out HGB.out BXB.out HQ.out).mono ?_); rintro e wd ⟨rfl, hx, hk, hw⟩; have BXD := am hx; have KD := am (KeepBut.trans KB.out hk (.inl rfl)); have WD := am (WB.out.trans hw); clear hx hk hw; (try dsimp only)))
          go_roundg k1
          case measure => have := HK.out; omega
          case rel => exact ⟨wrap64 (i + 1), c2_, sd_, H', ⟨by have := HK.out; omega⟩, BXD, KD, WD⟩
      rw [if_neg c4] at H
      have d2 : ((rd_T35 l i).f0 != 2) = true := bne_iff_ne.mpr (fun e => c4 (.inl e))
      have d3 : ((rd_T35 l i).f0 != 3) = true := bne_iff_ne.mpr (fun e => c4 (.inr e))
      have H' := am H
      clear H c3 c4
      go_wp2_with (first | ((with_reducible refine (impl_stmtValid.callsP k1 (ad.add (i.toNat * 8)) _ _ _ _ _ A5 c5 _ A6 _ c6 A7 _ c7 _ _ _ x0 x1 x2 x3 x4 x5 x6 x7 G5.out L5.out HT.out).mono ?_); rintro e wa ⟨rfl, hb⟩; have y0 := pw_cell_below hb x0; have y6 := pw_cell_below hb x6; have y7 := pw_cell_below hb x7; have BXA := am (blk_below HBQ.out hb); have KA := am (KeepBut.trans HKQ.out (KeepBut.of_below hb gc none) (.inl rfl)); have WA := am (HWQ.out.trans (hb.mono (Nat.le_of_lt (Nat.lt_of_le_of_lt HGB.out (blk_lt HBQ.out))))); have G6A := am (Kd.F_below G6.out hb); have G7A := am (Kd.F_below G7.out hb); clear hb; (try dsimp only)))
      go_roundg k1
      case measure => have := HK.out; omega
      case rel => exact ⟨wrap64 (i + 1), cq, sd_, H', ⟨by have := HK.out; omega⟩, BXA, KA, WA⟩
    rw [if_neg c2] at H
    exact absurd H (by simp)
   rw [if_neg c1] at H
   have c1b : decide (i < (l.length : Int)) = false := decide_eq_false c1
   have h1 := Option.some.inj H
   injection h1 with h1 h2
   subst h1
   subst h2
   clear H
   go_wp2
   go_ret
   exact ⟨rfl, HBQ.out, HKQ.out, HWQ.out⟩
theorem impl_stmtsValid.mono : ∀ l0 a1 k, LeO (impl_stmtsValid.f k l0 a1) (impl_stmtsValid.f (k + 1) l0 a1) := by
 intro l0 a1 k
 unfold impl_stmtsValid.f
 exact LeO.bind (impl_blockValid.mono _ _ _ _ _) (fun _ => LeO.refl _)
theorem impl_stmtsValid.calls (k : Nat) (A0 : Option Addr) (c0 : Nat) (l0 : List (S35)) (a1 : Int) (r : Bool) (w : World) (hr0 : Kd.C k35 w A0 l0.length l0) (hc0 : l0.length ≤ c0) (h : impl_stmtsValid.f k l0 a1 = some r) :
  Calls Try.prog 50 #[.slice A0 l0.length c0, .int .i64 a1] w fun e w' => e = .returned (.bool r) ∧ Below w.heap.size w w' := by
 unfold impl_stmtsValid.f at h
 replace h := Option.bind_eq_some_iff.mp h
 obtain ⟨⟨r', cnt'⟩, hv, h⟩ := h
 obtain rfl := Option.some.inj h
 have HV := am hv
 have HF := am (Kd.C_F k35_heap hr0)
 have HC0 := am hc0
 clear hr0 hc0 h hv
 go_enter Try.func50, Try.ntmps50
 go_upto_region 2 with (first | ((with_reducible refine gate_dst (N := 5) rfl ?_); refine box_event (N := 5) rfl rfl (cs := #[.int .i64 0]) (t := 3) rn_ ?_; intro gb hg w1 hbox hb; have z0 : w1.cell? ⟨gb, 0, none⟩ = some (.int .i64 0) := blk_cell hbox 0; have f0 := blk_frozen hbox 0; have HG := am (Nat.le_of_eq hg.symm); have HBX := am (blk_put (cs' := #[.int .i64 0]) hbox 0 (.int .i64 0) rfl); have HB := am (below_set (j := 0) (v := .int .i64 0) hb (Nat.le_of_eq hg.symm)); clear hbox hb hg) | fail)
 go_wp2_with (first | ((with_reducible refine (impl_blockValid.callsP k A0 c0 l0 a1 0 0 _ w.heap.size (fun q => q < w.heap.size) r' cnt' _ (Kd.F_below HF.out HB.out) HC0.out (Nat.not_lt.mpr HG.out) HG.out HBX.out HV.out).mono ?_); rintro e w2 ⟨rfl, _, _, hw⟩; have HW := am (HB.out.trans hw); clear hw; (try dsimp only)) | fail)
 go_ret
 exact ⟨rfl, HW.out⟩
theorem impl_StmtsValid.mono : ∀ a0 k, LeO (impl_StmtsValid.f k a0) (impl_StmtsValid.f (k + 1) a0) := by
 intro a0 k
 unfold impl_StmtsValid.f
 repeat' first
   | (with_reducible exact impl_stmtsValid.mono _ _ _)
   | (with_reducible exact LeO.refl _)
   | (with_reducible exact LeO.none _)
   | (with_reducible refine LeO.ite ?_ ?_)
   | (with_reducible refine LeO.bind ?_ (fun _ => ?_))
theorem impl_StmtsValid.calls (k : Nat) (A0 : Option Addr) (c0 : Nat) (l0 : List (S35)) (r : Bool) (w : World) (hr0 : Kd.C k35 w A0 l0.length l0) (hc0 : l0.length ≤ c0) (h : impl_StmtsValid.f k l0 = some r) :
  Calls Try.prog 17 #[.slice A0 l0.length c0] w fun e w' => e = .returned (.bool r) ∧ Below w.heap.size w w' := by
 have HR0 := am hr0
 have HC0 := am hc0
 clear hr0 hc0
 have HB := am (Below.refl w.heap.size w)
 have H : ((impl_stmtsValid.f k l0 3).bind fun t518 => (some t518)) = some r := h
 clear h
 obtain ⟨t518, A20, H⟩ := bsm H
 (try dsimp only at H)
 have A2 := am A20
 clear A20
 obtain rfl := Option.some.inj H
 go_enter Try.func17, Try.ntmps17
 go_wp2_with (first | ((with_reducible refine gate_callee (f := 50) rfl ?_); refine goesL_ (some 4) rfl rfl Try.func50 (by kernel_rfl) rfl #[.slice A0 l0.length c0, .int .i64 3] rfl ab1_ ?_; (with_reducible refine (impl_stmtsValid.calls k _ _ l0 3 t518 _ ?side1 HC0.out A2.out).mono ?_); (case side1 => repeat (first | exact HR0.out | (with_reducible refine Kd.C_alloc ?_ _) | (with_reducible refine Kd.C_drewN ?_ _) | (with_reducible refine Kd.C_drew ?_))); rintro e w3 ⟨rfl, hb⟩; refine ⟨_, rfl, ?_⟩; replace HB := am (below_step ab2_ hb); (try clear hb); (try clear hb2); (try clear hk); (try clear hi)))
 go_ret
 exact ⟨rr_, ab2_⟩
theorem impl_truth.calls (a0 : Bool) (r : Int) (w : World) (h : impl_truth.f a0 = some r) :
  Calls Try.prog 106 #[.bool a0] w fun e w' => e = .returned (.int .i64 r) ∧ Drawn0 w w' := by
 have H : (if a0 = true then (some 1) else (some 0)) = some r := h
 clear h
 by_cases c2 : a0 = true
 ·subst c2
  rw [if_pos rfl] at H
  obtain rfl := Option.some.inj H
  go_enter Try.func106, Try.ntmps106
  go_wp2
  go_ret
  exact ⟨by first | rfl | (simp; done) | (simp [*]; done), ab18_⟩
 replace c2 := Bool.eq_false_iff.mpr c2
 subst c2
 rw [if_neg (show ¬ (false = true) by decide)] at H
 obtain rfl := Option.some.inj H
 go_enter Try.func106, Try.ntmps106
 go_wp2
 go_ret
 exact ⟨by first | rfl | (simp; done) | (simp [*]; done), ab18_⟩
theorem impl_Wrap.calls (a0 : Int) (r : Int) (w : World) (h : impl_Wrap.f a0 = some r) :
  Calls Try.prog 107 #[.int .i64 a0] w fun e w' => e = .returned (.int .i64 r) ∧ Drawn0 w w' := by
 have H : (some (wrap64 (wrap32 (a0)))) = some r := h
 clear h
 obtain rfl := Option.some.inj H
 go_enter Try.func107, Try.ntmps107
 go_wp2
 go_ret
 exact ⟨by first | rfl | (simp; done) | (simp [*]; done), ab18_⟩
theorem impl_apply.calls (a0 : Int) (a1 : Int) (a2 : Int) (r : Int) (w : World) (h : impl_apply.f a0 a1 a2 = some r) :
  Calls Try.prog 94 #[.int .i64 a0, .int .i64 a1, .int .i64 a2] w fun e w' => e = .returned (.int .i64 r) ∧ Drawn0 w w' := by
 have H : (if a0 = 1 then (some (Go.bits .or .i64 a1 a2)) else (if a0 = 2 then (some (Go.bits .xor .i64 a1 a2)) else (if a0 = 3 then (some (Go.bits .and .i64 a1 a2)) else (if a0 = 4 then ((impl_truth.f (a1 == a2)).bind fun t519 => (some t519)) else (if a0 = 5 then ((impl_truth.f (decide (a1 < a2))).bind fun t520 => (some t520)) else (if a0 = 6 then (if 0 ≤ (Go.bits .and .i64 a2 31) then ((impl_Wrap.f (shl .i64 a1 (Go.bits .and .i64 a2 31))).bind fun t521 => (some t521)) else (none)) else (if a0 = 7 then (if 0 ≤ (Go.bits .and .i64 a2 31) then (some (shr .i64 a1 (Go.bits .and .i64 a2 31))) else (none)) else (if a0 = 8 then ((impl_Wrap.f (wrap64 (a1 + a2))).bind fun t522 => (some t522)) else (if a0 = 9 then ((impl_Wrap.f (wrap64 (a1 - a2))).bind fun t523 => (some t523)) else (if a0 = 10 then ((impl_Wrap.f (wrap64 (a1 * a2))).bind fun t524 => (some t524)) else (if a0 = 11 then (if a2 = 0 then (some (-1)) else ((impl_Wrap.f (wrap64 (Int.tdiv a1 a2))).bind fun t525 => (some t525))) else (if a2 = 0 then (some a1) else (some (Int.tmod a1 a2)))))))))))))) = some r := h
 clear h
 by_cases c4 : a0 = 1
 ·rw [if_pos c4] at H
  have c4b0 : (a0 == 1) = true := beq_iff_eq.mpr c4
  have c4b1 : (a0 != 1) = false := bne_eq_false_iff_eq.mpr c4
  clear c4
  obtain rfl := Option.some.inj H
  go_enter Try.func94, Try.ntmps94
  go_wp2
  go_ret
  exact ⟨by first | rfl | (simp; done) | (simp [*]; done), ab18_⟩
 rw [if_neg c4] at H
 have c4b0 : (a0 == 1) = false := beq_eq_false_iff_ne.mpr c4
 have c4b1 : (a0 != 1) = true := bne_iff_ne.mpr c4
 by_cases c5 : a0 = 2
 ·rw [if_pos c5] at H
  have c5b0 : (a0 == 2) = true := beq_iff_eq.mpr c5
  have c5b1 : (a0 != 2) = false := bne_eq_false_iff_eq.mpr c5
  clear c5
  obtain rfl := Option.some.inj H
  go_enter Try.func94, Try.ntmps94
  go_wp2
  go_ret
  exact ⟨by first | rfl | (simp; done) | (simp [*]; done), ab18_⟩
 rw [if_neg c5] at H
 have c5b0 : (a0 == 2) = false := beq_eq_false_iff_ne.mpr c5
 have c5b1 : (a0 != 2) = true := bne_iff_ne.mpr c5
 by_cases c6 : a0 = 3
 ·rw [if_pos c6] at H
  have c6b0 : (a0 == 3) = true := beq_iff_eq.mpr c6
  have c6b1 : (a0 != 3) = false := bne_eq_false_iff_eq.mpr c6
  clear c6
  obtain rfl := Option.some.inj H
  go_enter Try.func94, Try.ntmps94
  go_wp2
  go_ret
  exact ⟨by first | rfl | (simp; done) | (simp [*]; done), ab18_⟩
 rw [if_neg c6] at H
 have c6b0 : (a0 == 3) = false := beq_eq_false_iff_ne.mpr c6
 have c6b1 : (a0 != 3) = true := bne_iff_ne.mpr c6
 by_cases c7 : a0 = 4
 ·rw [if_pos c7] at H
  have c7b0 : (a0 == 4) = true := beq_iff_eq.mpr c7
  have c7b1 : (a0 != 4) = false := bne_eq_false_iff_eq.mpr c7
  clear c7
  obtain ⟨t519, A80, H⟩ := bsm H
  (try dsimp only at H)
  have A8 := am A80
  clear A80
  obtain rfl := Option.some.inj H
  go_enter Try.func94, Try.ntmps94
  go_wp2_with (first | ((with_reducible refine gate_callee (f := 106) rfl ?_); refine goesL_ (some 28) rfl rfl Try.func106 (by kernel_rfl) rfl #[.bool (a1 == a2)] rfl ab1_ ?_; (with_reducible refine (impl_truth.calls (a1 == a2) t519 _ A8.out).mono ?_); rintro e w' ⟨rfl, ⟨nd, rfl⟩⟩; refine ⟨_, rfl, ?_⟩))
  go_ret
  exact ⟨by first | rfl | (simp; done) | (simp [*]; done), ab18_⟩
 rw [if_neg c7] at H
 have c7b0 : (a0 == 4) = false := beq_eq_false_iff_ne.mpr c7
 have c7b1 : (a0 != 4) = true := bne_iff_ne.mpr c7
 by_cases c9 : a0 = 5
 ·rw [if_pos c9] at H
  have c9b0 : (a0 == 5) = true := beq_iff_eq.mpr c9
  have c9b1 : (a0 != 5) = false := bne_eq_false_iff_eq.mpr c9
  clear c9
  obtain ⟨t520, A100, H⟩ := bsm H
  (try dsimp only at H)
  have A10 := am A100
  clear A100
  obtain rfl := Option.some.inj H
  go_enter Try.func94, Try.ntmps94
  go_wp2_with (first | ((with_reducible refine gate_callee (f := 106) rfl ?_); refine goesL_ (some 34) rfl rfl Try.func106 (by kernel_rfl) rfl #[.bool (decide (a1 < a2))] rfl ab1_ ?_; (with_reducible refine (impl_truth.calls (decide (a1 < a2)) t520 _ A10.out).mono ?_); rintro e w' ⟨rfl, ⟨nd, rfl⟩⟩; refine ⟨_, rfl, ?_⟩))
  go_ret
  exact ⟨by first | rfl | (simp; done) | (simp [*]; done), ab18_⟩
 rw [if_neg c9] at H
 have c9b0 : (a0 == 5) = false := beq_eq_false_iff_ne.mpr c9
 have c9b1 : (a0 != 5) = true := bne_iff_ne.mpr c9
 by_cases c11 : a0 = 6
 ·rw [if_pos c11] at H
  have c11b0 : (a0 == 6) = true := beq_iff_eq.mpr c11
  have c11b1 : (a0 != 6) = false := bne_eq_false_iff_eq.mpr c11
  clear c11
  by_cases c12 : 0 ≤ (Go.bits .and .i64 a2 31)
  ·rw [if_pos c12] at H
   have c12b0 := eq_true c12
   have c12b1 : decide (0 ≤ (Go.bits .and .i64 a2 31)) = true := decide_eq_true c12
   clear c12
   obtain ⟨ji13, hji13⟩ : ∃ j_ : Int, (shl .i64 a1 (Go.bits .and .i64 a2 31)) = j_ := ⟨_, rfl⟩
   replace H : ((impl_Wrap.f (ji13)).bind fun t521 => (some t521)) = some r := by first | (rw [hji13] at H; exact H) | (simp only [hji13] at H ⊢; exact H)
   have hji13_ : (IntKind.i64.wrap (a1 * 2 ^ min (Go.bits .and .i64 a2 31).toNat 64)) = ji13 := hji13
   have hji13z : (Go.bits .and .i64 a2 31) ≤ 64 → (IntKind.i64.wrap (a1 * 2 ^ (Go.bits .and .i64 a2 31).toNat)) = ji13 := shl_small hji13
   have hji13y : (wrap64 (a1 * 2 ^ min (Go.bits .and .i64 a2 31).toNat 64)) = ji13 := (i64_w _).symm.trans hji13_
   have hji13x : (Go.bits .and .i64 a2 31) ≤ 64 → (wrap64 (a1 * 2 ^ (Go.bits .and .i64 a2 31).toNat)) = ji13 := fun h_ => (i64_w _).symm.trans (hji13z h_)
   obtain ⟨t521, A140, H⟩ := bsm H
   (try dsimp only at H)
   have A14 := am A140
   clear A140
   obtain rfl := Option.some.inj H
   go_enter Try.func94, Try.ntmps94
   go_wp2_with (first | ((with_reducible refine gate_callee (f := 107) rfl ?_); refine goesL_ (some 41) rfl rfl Try.func107 (by kernel_rfl) rfl #[.int .i64 ji13] rfl (by (try simp only [List.map_toArray, List.map_cons, List.map_nil]); first | done | (simp only [hji13]; rfl) | rfl | (simp only [List.length_drop, List.length_take]; rfl)) ?_; (with_reducible refine (impl_Wrap.calls ji13 t521 _ A14.out).mono ?_); rintro e w' ⟨rfl, ⟨nd, rfl⟩⟩; refine ⟨_, rfl, ?_⟩))
   go_ret
   exact ⟨by first | rfl | (simp; done) | (simp only [← hji13] <;> (first | rfl | simp)) | (simp [*]; done), ab18_⟩
  rw [if_neg c12] at H
  exact absurd H (by simp)
 rw [if_neg c11] at H
 have c11b0 : (a0 == 6) = false := beq_eq_false_iff_ne.mpr c11
 have c11b1 : (a0 != 6) = true := bne_iff_ne.mpr c11
 by_cases c15 : a0 = 7
 ·rw [if_pos c15] at H
  have c15b0 : (a0 == 7) = true := beq_iff_eq.mpr c15
  have c15b1 : (a0 != 7) = false := bne_eq_false_iff_eq.mpr c15
  clear c15
  by_cases c16 : 0 ≤ (Go.bits .and .i64 a2 31)
  ·rw [if_pos c16] at H
   have c16b0 := eq_true c16
   have c16b1 : decide (0 ≤ (Go.bits .and .i64 a2 31)) = true := decide_eq_true c16
   clear c16
   obtain ⟨ji17, hji17⟩ : ∃ j_ : Int, (shr .i64 a1 (Go.bits .and .i64 a2 31)) = j_ := ⟨_, rfl⟩
   replace H : (some ji17) = some r := by first | (rw [hji17] at H; exact H) | (simp only [hji17] at H ⊢; exact H)
   have hji17_ : (a1 / 2 ^ min (Go.bits .and .i64 a2 31).toNat 64) = ji17 := hji17
   have hji17z : (Go.bits .and .i64 a2 31) ≤ 64 → (a1 / 2 ^ (Go.bits .and .i64 a2 31).toNat) = ji17 := shr_small hji17
   obtain rfl := Option.some.inj H
   go_enter Try.func94, Try.ntmps94
   go_wp2
   go_ret
   exact ⟨by first | rfl | (simp; done) | (simp only [← hji17] <;> (first | rfl | simp)) | (simp [*]; done), ab18_⟩
  rw [if_neg c16] at H
  exact absurd H (by simp)
 rw [if_neg c15] at H
 have c15b0 : (a0 == 7) = false := beq_eq_false_iff_ne.mpr c15
 have c15b1 : (a0 != 7) = true := bne_iff_ne.mpr c15
 by_cases c18 : a0 = 8
 ·rw [if_pos c18] at H
  have c18b0 : (a0 == 8) = true := beq_iff_eq.mpr c18
  have c18b1 : (a0 != 8) = false := bne_eq_false_iff_eq.mpr c18
  clear c18
  obtain ⟨t522, A190, H⟩ := bsm H
  (try dsimp only at H)
  have A19 := am A190
  clear A190
  obtain rfl := Option.some.inj H
  go_enter Try.func94, Try.ntmps94
  go_wp2_with (first | ((with_reducible refine gate_callee (f := 107) rfl ?_); refine goesL_ (some 53) rfl rfl Try.func107 (by kernel_rfl) rfl #[.int .i64 (wrap64 (a1 + a2))] rfl ab1_ ?_; (with_reducible refine (impl_Wrap.calls (wrap64 (a1 + a2)) t522 _ A19.out).mono ?_); rintro e w' ⟨rfl, ⟨nd, rfl⟩⟩; refine ⟨_, rfl, ?_⟩))
  go_ret
  exact ⟨by first | rfl | (simp; done) | (simp [*]; done), ab18_⟩
 rw [if_neg c18] at H
 have c18b0 : (a0 == 8) = false := beq_eq_false_iff_ne.mpr c18
 have c18b1 : (a0 != 8) = true := bne_iff_ne.mpr c18
 by_cases c20 : a0 = 9
 ·rw [if_pos c20] at H
  have c20b0 : (a0 == 9) = true := beq_iff_eq.mpr c20
  have c20b1 : (a0 != 9) = false := bne_eq_false_iff_eq.mpr c20
  clear c20
  obtain ⟨t523, A210, H⟩ := bsm H
  (try dsimp only at H)
  have A21 := am A210
  clear A210
  obtain rfl := Option.some.inj H
  go_enter Try.func94, Try.ntmps94
  go_wp2_with (first | ((with_reducible refine gate_callee (f := 107) rfl ?_); refine goesL_ (some 59) rfl rfl Try.func107 (by kernel_rfl) rfl #[.int .i64 (wrap64 (a1 - a2))] rfl ab1_ ?_; (with_reducible refine (impl_Wrap.calls (wrap64 (a1 - a2)) t523 _ A21.out).mono ?_); rintro e w' ⟨rfl, ⟨nd, rfl⟩⟩; refine ⟨_, rfl, ?_⟩))
  go_ret
  exact ⟨by first | rfl | (simp; done) | (simp [*]; done), ab18_⟩
 rw [if_neg c20] at H
 have c20b0 : (a0 == 9) = false := beq_eq_false_iff_ne.mpr c20
 have c20b1 : (a0 != 9) = true := bne_iff_ne.mpr c20
 by_cases c22 : a0 = 10
 ·rw [if_pos c22] at H
  have c22b0 : (a0 == 10) = true := beq_iff_eq.mpr c22
  have c22b1 : (a0 != 10) = false := bne_eq_false_iff_eq.mpr c22
  clear c22
  obtain ⟨t524, A230, H⟩ := bsm H
  (try dsimp only at H)
  have A23 := am A230
  clear A230
  obtain rfl := Option.some.inj H
  go_enter Try.func94, Try.ntmps94
  go_wp2_with (first | ((with_reducible refine gate_callee (f := 107) rfl ?_); refine goesL_ (some 65) rfl rfl Try.func107 (by kernel_rfl) rfl #[.int .i64 (wrap64 (a1 * a2))] rfl ab1_ ?_; (with_reducible refine (impl_Wrap.calls (wrap64 (a1 * a2)) t524 _ A23.out).mono ?_); rintro e w' ⟨rfl, ⟨nd, rfl⟩⟩; refine ⟨_, rfl, ?_⟩))
  go_ret
  exact ⟨by first | rfl | (simp; done) | (simp [*]; done), ab18_⟩
 rw [if_neg c22] at H
 have c22b0 : (a0 == 10) = false := beq_eq_false_iff_ne.mpr c22
 have c22b1 : (a0 != 10) = true := bne_iff_ne.mpr c22
 by_cases c24 : a0 = 11
 ·rw [if_pos c24] at H
  have c24b0 : (a0 == 11) = true := beq_iff_eq.mpr c24
  have c24b1 : (a0 != 11) = false := bne_eq_false_iff_eq.mpr c24
  clear c24
  by_cases c25 : a2 = 0
  ·rw [if_pos c25] at H
   have c25b0 : (a2 == 0) = true := beq_iff_eq.mpr c25
   have c25b1 : (a2 != 0) = false := bne_eq_false_iff_eq.mpr c25
   clear c25
   obtain rfl := Option.some.inj H
   go_enter Try.func94, Try.ntmps94
   go_wp2
   go_ret
   exact ⟨by first | rfl | (simp; done) | (simp [*]; done), ab18_⟩
  rw [if_neg c25] at H
  have c25b0 : (a2 == 0) = false := beq_eq_false_iff_ne.mpr c25
  have c25b1 : (a2 != 0) = true := bne_iff_ne.mpr c25
  obtain ⟨t525, A260, H⟩ := bsm H
  (try dsimp only at H)
  have A26 := am A260
  clear A260
  obtain rfl := Option.some.inj H
  go_enter Try.func94, Try.ntmps94
  go_wp2_with (first | ((with_reducible refine gate_callee (f := 107) rfl ?_); refine goesL_ (some 73) rfl rfl Try.func107 (by kernel_rfl) rfl #[.int .i64 (wrap64 (Int.tdiv a1 a2))] rfl ab1_ ?_; (with_reducible refine (impl_Wrap.calls (wrap64 (Int.tdiv a1 a2)) t525 _ A26.out).mono ?_); rintro e w' ⟨rfl, ⟨nd, rfl⟩⟩; refine ⟨_, rfl, ?_⟩))
  go_ret
  exact ⟨by first | rfl | (simp; done) | (simp [*]; done), ab18_⟩
 rw [if_neg c24] at H
 have c24b0 : (a0 == 11) = false := beq_eq_false_iff_ne.mpr c24
 have c24b1 : (a0 != 11) = true := bne_iff_ne.mpr c24
 by_cases c27 : a2 = 0
 ·rw [if_pos c27] at H
  have c27b0 : (a2 == 0) = true := beq_iff_eq.mpr c27
  have c27b1 : (a2 != 0) = false := bne_eq_false_iff_eq.mpr c27
  clear c27
  obtain rfl := Option.some.inj H
  go_enter Try.func94, Try.ntmps94
  go_wp2
  go_ret
  exact ⟨by first | rfl | (simp; done) | (simp [*]; done), ab18_⟩
 rw [if_neg c27] at H
 have c27b0 : (a2 == 0) = false := beq_eq_false_iff_ne.mpr c27
 have c27b1 : (a2 != 0) = true := bne_iff_ne.mpr c27
 obtain rfl := Option.some.inj H
 go_enter Try.func94, Try.ntmps94
 go_wp2
 go_ret
 exact ⟨by first | rfl | (simp; done) | (simp [*]; done), ab18_⟩
theorem impl_exprFold.mono_l : ∀ k, (∀ y0 y1 y2, LeO (impl_exprFold.f k y0 y1 y2) (impl_exprFold.f (k + 1) y0 y1 y2)) ∧ (∀ y0 y1 y2 y3 y4 y5 y6 y7 y8 y9, LeO (impl_exprFold.j0 k y0 y1 y2 y3 y4 y5 y6 y7 y8 y9) (impl_exprFold.j0 (k + 1) y0 y1 y2 y3 y4 y5 y6 y7 y8 y9))
 | 0 => ⟨fun _ _ _ r h => by simp [impl_exprFold.f] at h, fun _ _ _ _ _ _ _ _ _ _ r h => by simp [impl_exprFold.j0] at h⟩
 | k + 1 => by
  obtain ⟨ih0, ih1⟩ := impl_exprFold.mono_l k
  refine ⟨?_, ?_⟩
  ·intro y0 y1 y2
   unfold impl_exprFold.f
   repeat' first
   | (with_reducible exact ih0 _ _ _)
   | (with_reducible exact ih1 _ _ _ _ _ _ _ _ _ _)
   | (with_reducible exact LeO.refl _)
   | (with_reducible exact LeO.none _)
   | (with_reducible refine LeO.ite ?_ ?_)
   | (with_reducible refine LeO.bind ?_ (fun _ => ?_))
  ·intro y0 y1 y2 y3 y4 y5 y6 y7 y8 y9
   unfold impl_exprFold.j0
   repeat' first
   | (with_reducible exact ih0 _ _ _)
   | (with_reducible exact ih1 _ _ _ _ _ _ _ _ _ _)
   | (with_reducible exact LeO.refl _)
   | (with_reducible exact LeO.none _)
   | (with_reducible refine LeO.ite ?_ ?_)
   | (with_reducible refine LeO.bind ?_ (fun _ => ?_))
theorem impl_exprFold.mono : ∀ a0 a1 a2 k, LeO (impl_exprFold.f k a0 a1 a2) (impl_exprFold.f (k + 1) a0 a1 a2) := by
 intro a0 a1 a2 k
 obtain ⟨ih0, ih1⟩ := impl_exprFold.mono_l k
 exact ih0 a0 a1 a2
def impl_exprFold.T3 : Bool × List (List Nat × List Nat) := (true, [([], []), ([0], [0]), ([1], [1]), ([2], [2]), ([3], [3]), ([], []), ([5], [5]), ([6], [6]), ([7], [7]), ([8, 4], [8]), ([], []), ([], []), ([10, 4, 9, 0, 1, 2, 3, 4, 10, 11], [4, 10]), ([11, 9, 12, 0, 1, 2, 3, 4, 5, 6, 7, 8, 9, 10, 11, 12], [9, 11])])
def impl_exprFold.B3 : List Nat := [0, 1, 3, 7, 15, 0, 32, 96, 224, 511, 0, 0, 4095, 8191]
theorem impl_exprFold.tab3 : rtab .any (opsOf Try.f78 3) = impl_exprFold.T3 := by kernel_rfl
theorem impl_exprFold.bits3 : waitsOk impl_exprFold.T3.2 impl_exprFold.B3 = true := by kernel_rfl
theorem impl_exprFold.calls (k : Nat) : ∀ (a0_0 : Int) (a0_1 : Int) (A0_2 : Option Addr) (c0_2 : Nat) (l0_2 : List (S32)) (r1 : Int) (r2 : Int) (r3 : List (S32)) (w : World) (hr0_2 : Kd.C k32 w A0_2 l0_2.length l0_2) (hc0_2 : l0_2.length ≤ c0_2) (h : impl_exprFold.f k a0_0 a0_1 l0_2 = some (r1, r2, r3)),
  Calls Try.prog 78 #[.agg #[.int .i64 a0_0, .int .i64 a0_1, .slice A0_2 l0_2.length c0_2]] w fun e w' => ∃ v2_ : Value, e = .returned (.agg #[.int .i64 r1, .int .i64 r2, v2_]) ∧ Kd.N k32 32 w' w.heap.size (fun k_ => (w.heap.size ≤ k_)) v2_ r3 ∧ Below w.heap.size w w' := by
 induction k using Nat.strongRecOn with
 | _ k ih =>
 intro a0_0 a0_1 A0_2 c0_2 l0_2 r1 r2 r3 w hr0_2 hc0_2 h
 cases k with
 | zero => exact absurd h (by simp [impl_exprFold.f])
 | succ k =>
 simp only [impl_exprFold.f] at h
 have hu32 := Try.underlying32
 have HR0_2 := am hr0_2
 have HC0_2 := am hc0_2
 clear hr0_2 hc0_2
 have HB := am (Below.refl w.heap.size w)
 have H : (if (l0_2.length : Int) = 0 then (some (a0_0, a0_1, ([] : List (S32)))) else (if 0 < (l0_2.length : Int) then ((impl_exprFold.f k ((rd_T32 l0_2 0).f0) ((rd_T32 l0_2 0).f1) ((rd_T32 l0_2 0).f2)).bind fun bt529 => (if 1 < (l0_2.length : Int) then ((impl_exprFold.f k ((rd_T32 l0_2 1).f0) ((rd_T32 l0_2 1).f1) ((rd_T32 l0_2 1).f2)).bind fun bt535 => (if bt529.1 = 0 then (impl_exprFold.j0 k (bt535.1 == 0) a0_0 a0_1 l0_2 bt529.1 bt529.2.1 bt529.2.2 bt535.1 bt535.2.1 bt535.2.2) else (impl_exprFold.j0 k false a0_0 a0_1 l0_2 bt529.1 bt529.2.1 bt529.2.2 bt535.1 bt535.2.1 bt535.2.2))) else (none))) else (none))) = some (r1, r2, r3) := h
 clear h
 have HH_ := am H
 clear H
 go_enter Try.func78, Try.ntmps78
 go_upto_region 1 with (first | ((with_reducible refine gate_dst (N := 1) rfl ?_); refine box_event rfl (N := 1) rfl (cs := #[.int .i64 a0_0, .int .i64 a0_1, .slice A0_2 l0_2.length c0_2]) (t := 32) rn_ ?_; intro gb526 hg w3 hbox hb; have BK526 := am (hbox); have GW526 := am ((by rw [hg]; exact (below_size ab2_) : w.heap.size ≤ gb526)); have GE526 := am ((by rw [hg]; exact (below_size ab2_) : w.heap.size ≤ gb526)); replace HB := am (below_step ab2_ hb); clear hb hbox hg) | ((with_reducible refine gate_dst (N := 2) rfl ?_); refine box_event rfl (N := 2) rfl (cs := #[.int .i64 0, .int .i64 0, .slice none 0 0]) (t := 32) rn_ ?_; intro gb527 hg w4 hbox hb; have BK527 := am (hbox); have GW527 := am ((by rw [hg]; exact (below_size ab70_) : w.heap.size ≤ gb527)); have GE527 := am ((by rw [hg]; exact (below_size ab70_) : w.heap.size ≤ gb527)); replace HB := am (below_step ab70_ hb); have NB526_527 := am ((by rw [hg]; exact Nat.ne_of_lt (blt_ BK526.out) : gb526 ≠ gb527)); have NB527_526 := am ((by rw [hg]; exact Nat.ne_of_gt (blt_ BK526.out) : gb527 ≠ gb526)); replace BK526 := am (bbl_ BK526.out hb); clear hb hbox hg; have hnb5 := NB526_527.out; have hnc5 := NB527_526.out; obtain ⟨hcz6_0, hcz6_1, hcz6_2, hfz6_0, hfz6_1, hfz6_2⟩ := bcf3_ BK526.out))
 have H := HH_.out
 clear HH_
 by_cases c2 : (l0_2.length : Int) = 0
 ·rw [if_pos c2] at H
  have c2b0 : ((l0_2.length : Int) == 0) = true := beq_iff_eq.mpr c2
  have c2b1 : ((l0_2.length : Int) != 0) = false := bne_eq_false_iff_eq.mpr c2
  clear c2
  simp only [Option.some.injEq, Prod.mk.injEq] at H
  obtain ⟨rfl, rfl, rfl⟩ := H
  obtain ⟨hcz7_0, hcz7_1, hcz7_2, hfz7_0, hfz7_1, hfz7_2⟩ := bcf3_ BK527.out
  go_wp2
  refine bodyPost_ret (results_cell_row rfl _ _ gb527 32 #[.int .i64 a0_0, .int .i64 a0_1, .slice none 0 0] (0, 0) _ rfl (blk_put (blk_put (blk_put BK527.out 0 _ rfl) 1 _ rfl) 2 _ rfl) Try.underlying32 rfl (by kernel_rfl)) rfl ?_
  exact ⟨_, ab11_, by first | exact Kd.R_nil _ _ _ _ _ | exact Kd.N_nil _ _ _ _ _ | exact Kd.V_nil _ _ _ _ _ | exact Kd.Q_nil _ _ _ _ _ | exact Kd.S_nil _ _ _ _ _, ab12_⟩
 rw [if_neg c2] at H
 have c2b0 : ((l0_2.length : Int) == 0) = false := beq_eq_false_iff_ne.mpr c2
 have c2b1 : ((l0_2.length : Int) != 0) = true := bne_iff_ne.mpr c2
 have c2b2 : ¬ (l0_2 = []) := fun h_ => c2 (by rw [h_]; rfl)
 by_cases c8 : 0 < (l0_2.length : Int)
 ·rw [if_pos c8] at H
  have c8b0 : decide (0 < (l0_2.length : Int)) = true := decide_eq_true c8
  have c8b1 : decide (0 < l0_2.length) = true := decide_eq_true (by omega)
  clear c8
  obtain ⟨⟨t529, t530, t531⟩, A90, H⟩ := bsm H
  (try dsimp only at H)
  have A9 := am A90
  clear A90
  by_cases c10 : 1 < (l0_2.length : Int)
  ·rw [if_pos c10] at H
   have c10b0 : decide (1 < (l0_2.length : Int)) = true := decide_eq_true c10
   have c10b1 : decide (1 < l0_2.length) = true := decide_eq_true (by omega)
   clear c10
   obtain ⟨⟨t535, t536, t537⟩, A110, H⟩ := bsm H
   (try dsimp only at H)
   have A11 := am A110
   clear A110
   have HC12 := am H
   clear H
   try go_wp2
   replace BK526 := am (blk_drew BK526.out)
   replace BK527 := am (blk_drew BK527.out)
   replace HB := am (below_drew1 HB.out)
   have p528 : 0 ≤ (0 : Int) := (by omega)
   have q528 : 0 < (l0_2.length : Int) := of_decide_eq_true asm_
   obtain ⟨ad528, A528_2, c528_2, e528, hx528_0, hx528_1, hx528_2, hl528_2, hi528_2⟩ := at_T32 HR0_2.out 0 p528 q528
   have hw528_2 := hx528_2
   (try rw [show ((0 : Int)).toNat = 0 from rfl] at hw528_2)
   (try rw [show 0 * 3 = 0 from rfl] at hw528_2)
   (try rw [Addr.add_zero'] at hw528_2)
   have hw528_1 := hx528_1
   (try rw [show ((0 : Int)).toNat = 0 from rfl] at hw528_1)
   (try rw [show 0 * 3 = 0 from rfl] at hw528_1)
   (try rw [Addr.add_zero'] at hw528_1)
   have hw528_0 := hx528_0
   (try rw [show ((0 : Int)).toNat = 0 from rfl] at hw528_0)
   (try rw [show 0 * 3 = 0 from rfl] at hw528_0)
   (try rw [Addr.add_zero'] at hw528_0)
   cases e528
   have qi528 : (0 < l0_2.length) = True := eq_true (by omega)
   (try rw [show ((0 : Int)).toNat = 0 from rfl] at hx528_0)
   (try rw [show 0 * 3 = 0 from rfl] at hx528_0)
   (try rw [Addr.add_zero'] at hx528_0)
   (try rw [show ((0 : Int)).toNat = 0 from rfl] at hx528_1)
   (try rw [show 0 * 3 = 0 from rfl] at hx528_1)
   (try rw [Addr.add_zero'] at hx528_1)
   (try rw [show ((0 : Int)).toNat = 0 from rfl] at hx528_2)
   (try rw [show 0 * 3 = 0 from rfl] at hx528_2)
   (try rw [Addr.add_zero'] at hx528_2)
   replace hx528_0 := (HB.out.cell (World.block_lt_of_cell? w _ hx528_0)).trans hx528_0
   replace hx528_1 := (HB.out.cell (World.block_lt_of_cell? w _ hx528_1)).trans hx528_1
   replace hx528_2 := (HB.out.cell (World.block_lt_of_cell? w _ hx528_2)).trans hx528_2
   have HR528_2 := am hi528_2
   have HC528_2 := am hl528_2
   clear hi528_2 hl528_2
   replace p528 := eq_true p528
   replace q528 := eq_true q528
   have p534 : 0 ≤ (1 : Int) := (by omega)
   have q534 : 1 < (l0_2.length : Int) := of_decide_eq_true asm_
   obtain ⟨ad534, A534_2, c534_2, e534, hx534_0, hx534_1, hx534_2, hl534_2, hi534_2⟩ := at_T32 HR0_2.out 1 p534 q534
   have hw534_2 := hx534_2
   (try rw [show ((1 : Int)).toNat = 1 from rfl] at hw534_2)
   (try rw [show 1 * 3 = 3 from rfl] at hw534_2)
   (try simp only [Nat.reduceMul, Nat.reduceEqDiff, Go.Addr.add, ↓reduceIte] at hw534_2)
   have hw534_1 := hx534_1
   (try rw [show ((1 : Int)).toNat = 1 from rfl] at hw534_1)
   (try rw [show 1 * 3 = 3 from rfl] at hw534_1)
   (try simp only [Nat.reduceMul, Nat.reduceEqDiff, Go.Addr.add, ↓reduceIte] at hw534_1)
   have hw534_0 := hx534_0
   (try rw [show ((1 : Int)).toNat = 1 from rfl] at hw534_0)
   (try rw [show 1 * 3 = 3 from rfl] at hw534_0)
   (try simp only [Nat.reduceMul, Nat.reduceEqDiff, Go.Addr.add, ↓reduceIte] at hw534_0)
   obtain rfl : ad528 = ad534 := (by injection e534)
   (try simp only [show (1 : Int).toNat = 1 from rfl, Nat.reduceMul, Nat.reduceEqDiff, Go.Addr.add, ↓reduceIte] at hx534_0)
   (try simp only [show (1 : Int).toNat = 1 from rfl, Nat.reduceMul, Nat.reduceEqDiff, Go.Addr.add, ↓reduceIte] at hx534_1)
   (try simp only [show (1 : Int).toNat = 1 from rfl, Nat.reduceMul, Nat.reduceEqDiff, Go.Addr.add, ↓reduceIte] at hx534_2)
   have qi534 : (1 < l0_2.length) = True := eq_true (by omega)
   (try rw [show ((1 : Int)).toNat = 1 from rfl] at hx534_0)
   (try rw [show 1 * 3 = 3 from rfl] at hx534_0)
   (try rw [show ((1 : Int)).toNat = 1 from rfl] at hx534_1)
   (try rw [show 1 * 3 = 3 from rfl] at hx534_1)
   (try rw [show ((1 : Int)).toNat = 1 from rfl] at hx534_2)
   (try rw [show 1 * 3 = 3 from rfl] at hx534_2)
   replace hx534_0 := (HB.out.cell (World.block_lt_of_cell? w _ hx534_0)).trans hx534_0
   replace hx534_1 := (HB.out.cell (World.block_lt_of_cell? w _ hx534_1)).trans hx534_1
   replace hx534_2 := (HB.out.cell (World.block_lt_of_cell? w _ hx534_2)).trans hx534_2
   have HR534_2 := am hi534_2
   have HC534_2 := am hl534_2
   clear hi534_2 hl534_2
   replace p534 := eq_true p534
   replace q534 := eq_true q534
   have hS0_ : ∀ w' : World, w'.heap[gb526]? = some (.cells #[.int .i64 a0_0, .int .i64 a0_1, .slice (some ad528) l0_2.length c0_2] 32 (0, 0)) → Below w.heap.size w w' → (w'.cell? ⟨gb526, 0, none⟩ = some (.int .i64 a0_0) ∧ w'.cell? ⟨gb526, 1, none⟩ = some (.int .i64 a0_1) ∧ w'.cell? ⟨gb526, 2, none⟩ = some (.slice (some ad528) l0_2.length c0_2) ∧ w'.cell? ad528 = some (.int .i64 ((rd_T32 l0_2 0).f0)) ∧ w'.cell? ⟨ad528.block, ad528.off + 1, none⟩ = some (.int .i64 ((rd_T32 l0_2 0).f1)) ∧ w'.cell? ⟨ad528.block, ad528.off + 2, none⟩ = some (.slice A528_2 ((rd_T32 l0_2 0).f2).length c528_2) ∧ w'.cell? ⟨ad528.block, ad528.off + 3, none⟩ = some (.int .i64 ((rd_T32 l0_2 1).f0)) ∧ w'.cell? ⟨ad528.block, ad528.off + 3 + 1, none⟩ = some (.int .i64 ((rd_T32 l0_2 1).f1)) ∧ w'.cell? ⟨ad528.block, ad528.off + 3 + 2, none⟩ = some (.slice A534_2 ((rd_T32 l0_2 1).f2).length c534_2)) := fun w' b_ h_ => ⟨(blk_cell b_ 0).trans rfl, (blk_cell b_ 1).trans rfl, (blk_cell b_ 2).trans rfl, ((h_.cell (World.block_lt_of_cell? w _ hw528_0)).trans hw528_0), ((h_.cell (World.block_lt_of_cell? w _ hw528_1)).trans hw528_1), ((h_.cell (World.block_lt_of_cell? w _ hw528_2)).trans hw528_2), ((h_.cell (World.block_lt_of_cell? w _ hw534_0)).trans hw534_0), ((h_.cell (World.block_lt_of_cell? w _ hw534_1)).trans hw534_1), ((h_.cell (World.block_lt_of_cell? w _ hw534_2)).trans hw534_2)⟩
   refine start_ (n := 14) (S := fun w' => w'.cell? ⟨gb526, 0, none⟩ = some (.int .i64 a0_0) ∧ w'.cell? ⟨gb526, 1, none⟩ = some (.int .i64 a0_1) ∧ w'.cell? ⟨gb526, 2, none⟩ = some (.slice (some ad528) l0_2.length c0_2) ∧ w'.cell? ad528 = some (.int .i64 ((rd_T32 l0_2 0).f0)) ∧ w'.cell? ⟨ad528.block, ad528.off + 1, none⟩ = some (.int .i64 ((rd_T32 l0_2 0).f1)) ∧ w'.cell? ⟨ad528.block, ad528.off + 2, none⟩ = some (.slice A528_2 ((rd_T32 l0_2 0).f2).length c528_2) ∧ w'.cell? ⟨ad528.block, ad528.off + 3, none⟩ = some (.int .i64 ((rd_T32 l0_2 1).f0)) ∧ w'.cell? ⟨ad528.block, ad528.off + 3 + 1, none⟩ = some (.int .i64 ((rd_T32 l0_2 1).f1)) ∧ w'.cell? ⟨ad528.block, ad528.off + 3 + 2, none⟩ = some (.slice A534_2 ((rd_T32 l0_2 1).f2).length c534_2)) (ds := []) #[false, false, false, false, false, false, false, false, false, false, false, false, false, false] (by kernel_rfl) rfl rfl (hS0_ _ BK526.out HB.out) (fun hHeld => ?_); refine with_tabW impl_exprFold.tab3 impl_exprFold.bits3 (fun HT_ HW_ => ?_)
   generalize w4.drew = w17 at BK526 BK527 HB HR528_2 HR534_2 hx528_0 hx528_1 hx528_2 hx534_0 hx534_1 hx534_2 hHeld ⊢
   refine pure_ (i := 0) (N := some 15) (v := ?_) (a' := ?_) #[true, false, false, false, false, false, false, false, false, false, false, false, false, false] rfl rfl (any_of HT_.out (by kernel_rfl)) (fun _ _ _ h => h) (Or.inl ⟨by rfl, ?_⟩) ?_ ?_
   rotate_left
   ·intro w'
    go_simp
    with_reducible rfl
   rotate_left
   ·simp only [Act.put, List.setIfInBounds_toArray, List.set_cons_zero, List.set_cons_succ, i64_w, i32_w]
    rfl
   refine pure_ (i := 5) (N := some 20) (v := ?_) (a' := ?_) #[true, false, false, false, false, true, false, false, false, false, false, false, false, false] rfl rfl (any_of HT_.out (by kernel_rfl)) (fun _ _ _ h => h) (Or.inl ⟨by rfl, ?_⟩) ?_ ?_
   rotate_left
   ·intro w'
    go_simp
    with_reducible rfl
   rotate_left
   ·simp only [Act.put, List.setIfInBounds_toArray, List.set_cons_zero, List.set_cons_succ, i64_w, i32_w]
    rfl
   refine take_ (i := 1) (N := some 16) (v := ?_) (a' := ?_) #[true, true, false, false, false, true, false, false, false, false, false, false, false, false] rfl rfl (take_ofW HT_.out HW_.out (by kernel_rfl)) (fun _ _ _ h => h) (Or.inl ⟨by rfl, ?_⟩) hHeld ?_ ?_
   rotate_left
   ·rintro w' ⟨s0, s1, s2, s3, s4, s5, s6, s7, s8⟩
    go_simp
    with_reducible rfl
   rotate_left
   ·simp only [Act.put, List.setIfInBounds_toArray, List.set_cons_zero, List.set_cons_succ, i64_w, i32_w]
    rfl
   refine pure_ (i := 2) (N := some 17) (v := ?_) (a' := ?_) #[true, true, true, false, false, true, false, false, false, false, false, false, false, false] rfl rfl (any_of HT_.out (by kernel_rfl)) (fun _ _ _ h => h) (Or.inl ⟨by rfl, ?_⟩) ?_ ?_
   rotate_left
   ·intro w'
    go_simp
    with_reducible rfl
   rotate_left
   ·simp only [Act.put, List.setIfInBounds_toArray, List.set_cons_zero, List.set_cons_succ, i64_w, i32_w]
    rfl
   refine take_ (i := 3) (N := some 18) (v := ?_) (a' := ?_) #[true, true, true, true, false, true, false, false, false, false, false, false, false, false] rfl rfl (take_ofW HT_.out HW_.out (by kernel_rfl)) (fun _ _ _ h => h) (Or.inl ⟨by rfl, ?_⟩) hHeld ?_ ?_
   rotate_left
   ·rintro w' ⟨s0, s1, s2, s3, s4, s5, s6, s7, s8⟩
    go_simp
    with_reducible rfl
   rotate_left
   ·simp only [Act.put, List.setIfInBounds_toArray, List.set_cons_zero, List.set_cons_succ, i64_w, i32_w]
    rfl
   refine take_ (i := 6) (N := some 21) (v := ?_) (a' := ?_) #[true, true, true, true, false, true, true, false, false, false, false, false, false, false] rfl rfl (take_ofW HT_.out HW_.out (by kernel_rfl)) (fun _ _ _ h => h) (Or.inl ⟨by rfl, ?_⟩) hHeld ?_ ?_
   rotate_left
   ·rintro w' ⟨s0, s1, s2, s3, s4, s5, s6, s7, s8⟩
    go_simp
    with_reducible rfl
   rotate_left
   ·simp only [Act.put, List.setIfInBounds_toArray, List.set_cons_zero, List.set_cons_succ, i64_w, i32_w]
    rfl
   refine pure_ (i := 7) (N := some 22) (v := ?_) (a' := ?_) #[true, true, true, true, false, true, true, true, false, false, false, false, false, false] rfl rfl (any_of HT_.out (by kernel_rfl)) (fun _ _ _ h => h) (Or.inl ⟨by rfl, ?_⟩) ?_ ?_
   rotate_left
   ·intro w'
    go_simp
    with_reducible rfl
   rotate_left
   ·simp only [Act.put, List.setIfInBounds_toArray, List.set_cons_zero, List.set_cons_succ, i64_w, i32_w]
    rfl
   refine take_ (i := 8) (N := some 23) (v := ?_) (a' := ?_) #[true, true, true, true, false, true, true, true, true, false, false, false, false, false] rfl rfl (take_ofW HT_.out HW_.out (by kernel_rfl)) (fun _ _ _ h => h) (Or.inl ⟨by rfl, ?_⟩) hHeld ?_ ?_
   rotate_left
   ·rintro w' ⟨s0, s1, s2, s3, s4, s5, s6, s7, s8⟩
    go_simp
    with_reducible rfl
   rotate_left
   ·simp only [Act.put, List.setIfInBounds_toArray, List.set_cons_zero, List.set_cons_succ, i64_w, i32_w]
    rfl
   refine join_ (σ := Value × Value × Nat × Nat) 2 #[true, true, true, true, true, true, true, true, true, true, true, true, false, false] (fun s_ => [(19, .agg #[.int .i64 t529, .int .i64 t530, s_.1]), (24, .agg #[.int .i64 t535, .int .i64 t536, s_.2.1]), (3, .pointer (some ⟨s_.2.2.1, 0, none⟩)), (4, .pointer (some ⟨s_.2.2.2, 0, none⟩))]) (fun s_ w' => (w'.cell? ⟨gb526, 0, none⟩ = some (.int .i64 a0_0) ∧ w'.cell? ⟨gb526, 1, none⟩ = some (.int .i64 a0_1) ∧ w'.cell? ⟨gb526, 2, none⟩ = some (.slice (some ad528) l0_2.length c0_2) ∧ w'.cell? ad528 = some (.int .i64 ((rd_T32 l0_2 0).f0)) ∧ w'.cell? ⟨ad528.block, ad528.off + 1, none⟩ = some (.int .i64 ((rd_T32 l0_2 0).f1)) ∧ w'.cell? ⟨ad528.block, ad528.off + 2, none⟩ = some (.slice A528_2 ((rd_T32 l0_2 0).f2).length c528_2) ∧ w'.cell? ⟨ad528.block, ad528.off + 3, none⟩ = some (.int .i64 ((rd_T32 l0_2 1).f0)) ∧ w'.cell? ⟨ad528.block, ad528.off + 3 + 1, none⟩ = some (.int .i64 ((rd_T32 l0_2 1).f1)) ∧ w'.cell? ⟨ad528.block, ad528.off + 3 + 2, none⟩ = some (.slice A534_2 ((rd_T32 l0_2 1).f2).length c534_2)) ∧ (Kd.N k32 32 w' w.heap.size (fun k_ => (w.heap.size ≤ k_) ∧ some k_ ≠ (s_.2.1 : Value).ownBlock ∧ k_ ≠ gb526 ∧ k_ ≠ gb527 ∧ k_ ≠ s_.2.2.1 ∧ k_ ≠ s_.2.2.2) s_.1 t531) ∧ (Kd.N k32 32 w' w.heap.size (fun k_ => (w.heap.size ≤ k_) ∧ some k_ ≠ (s_.1 : Value).ownBlock ∧ k_ ≠ gb526 ∧ k_ ≠ gb527 ∧ k_ ≠ s_.2.2.1 ∧ k_ ≠ s_.2.2.2) s_.2.1 t537) ∧ (w'.heap[gb526]? = some (.cells #[.int .i64 a0_0, .int .i64 a0_1, .slice (some ad528) l0_2.length c0_2] 32 (0, 0))) ∧ (w'.heap[gb527]? = some (.cells #[.int .i64 0, .int .i64 0, .slice none 0 0] 32 (0, 0))) ∧ (w'.heap[s_.2.2.1]? = some (.cells #[.int .i64 0, .int .i64 0, .slice none 0 0] 32 (0, 0))) ∧ (w'.heap[s_.2.2.2]? = some (.cells #[.int .i64 0, .int .i64 0, .slice none 0 0] 32 (0, 0))) ∧ (w.heap.size ≤ s_.2.2.1) ∧ (w.heap.size ≤ s_.2.2.1) ∧ (gb526 ≠ s_.2.2.1) ∧ (s_.2.2.1 ≠ gb526) ∧ (gb527 ≠ s_.2.2.1) ∧ (s_.2.2.1 ≠ gb527) ∧ (s_.2.2.2 ≠ s_.2.2.1) ∧ (s_.2.2.1 ≠ s_.2.2.2) ∧ (w.heap.size ≤ s_.2.2.2) ∧ (w.heap.size ≤ s_.2.2.2) ∧ (gb526 ≠ s_.2.2.2) ∧ (s_.2.2.2 ≠ gb526) ∧ (gb527 ≠ s_.2.2.2) ∧ (s_.2.2.2 ≠ gb527) ∧ (Below w.heap.size w w')) ?_ ?_
   rotate_left
   ·intro hJ4_9_10_11
    refine join_ (σ := Value × Value × Nat) 3 #[true, true, true, true, true, true, true, true, true, true, true, false, false, false] (fun s_ => [(19, .agg #[.int .i64 t529, .int .i64 t530, s_.1]), (24, .agg #[.int .i64 t535, .int .i64 t536, s_.2.1]), (3, .pointer (some ⟨s_.2.2, 0, none⟩))]) (fun s_ w' => (w'.cell? ⟨gb526, 0, none⟩ = some (.int .i64 a0_0) ∧ w'.cell? ⟨gb526, 1, none⟩ = some (.int .i64 a0_1) ∧ w'.cell? ⟨gb526, 2, none⟩ = some (.slice (some ad528) l0_2.length c0_2) ∧ w'.cell? ad528 = some (.int .i64 ((rd_T32 l0_2 0).f0)) ∧ w'.cell? ⟨ad528.block, ad528.off + 1, none⟩ = some (.int .i64 ((rd_T32 l0_2 0).f1)) ∧ w'.cell? ⟨ad528.block, ad528.off + 2, none⟩ = some (.slice A528_2 ((rd_T32 l0_2 0).f2).length c528_2) ∧ w'.cell? ⟨ad528.block, ad528.off + 3, none⟩ = some (.int .i64 ((rd_T32 l0_2 1).f0)) ∧ w'.cell? ⟨ad528.block, ad528.off + 3 + 1, none⟩ = some (.int .i64 ((rd_T32 l0_2 1).f1)) ∧ w'.cell? ⟨ad528.block, ad528.off + 3 + 2, none⟩ = some (.slice A534_2 ((rd_T32 l0_2 1).f2).length c534_2)) ∧ (Kd.N k32 32 w' w.heap.size (fun k_ => (w.heap.size ≤ k_) ∧ some k_ ≠ (s_.2.1 : Value).ownBlock ∧ k_ ≠ gb526 ∧ k_ ≠ gb527 ∧ k_ ≠ s_.2.2) s_.1 t531) ∧ (Kd.N k32 32 w' w.heap.size (fun k_ => (w.heap.size ≤ k_) ∧ some k_ ≠ (s_.1 : Value).ownBlock ∧ k_ ≠ gb526 ∧ k_ ≠ gb527 ∧ k_ ≠ s_.2.2) s_.2.1 t537) ∧ (w'.heap[gb526]? = some (.cells #[.int .i64 a0_0, .int .i64 a0_1, .slice (some ad528) l0_2.length c0_2] 32 (0, 0))) ∧ (w'.heap[gb527]? = some (.cells #[.int .i64 0, .int .i64 0, .slice none 0 0] 32 (0, 0))) ∧ (w'.heap[s_.2.2]? = some (.cells #[.int .i64 0, .int .i64 0, .slice none 0 0] 32 (0, 0))) ∧ (w.heap.size ≤ s_.2.2) ∧ (w.heap.size ≤ s_.2.2) ∧ (gb526 ≠ s_.2.2) ∧ (s_.2.2 ≠ gb526) ∧ (gb527 ≠ s_.2.2) ∧ (s_.2.2 ≠ gb527) ∧ (Below w.heap.size w w')) ?_ ?_
    rotate_left
    ·intro hJ4_9_10
     refine join_ (σ := Value × Value × Nat) 3 #[true, true, true, true, true, true, true, true, true, true, false, true, false, false] (fun s_ => [(19, .agg #[.int .i64 t529, .int .i64 t530, s_.1]), (24, .agg #[.int .i64 t535, .int .i64 t536, s_.2.1]), (4, .pointer (some ⟨s_.2.2, 0, none⟩))]) (fun s_ w' => (w'.cell? ⟨gb526, 0, none⟩ = some (.int .i64 a0_0) ∧ w'.cell? ⟨gb526, 1, none⟩ = some (.int .i64 a0_1) ∧ w'.cell? ⟨gb526, 2, none⟩ = some (.slice (some ad528) l0_2.length c0_2) ∧ w'.cell? ad528 = some (.int .i64 ((rd_T32 l0_2 0).f0)) ∧ w'.cell? ⟨ad528.block, ad528.off + 1, none⟩ = some (.int .i64 ((rd_T32 l0_2 0).f1)) ∧ w'.cell? ⟨ad528.block, ad528.off + 2, none⟩ = some (.slice A528_2 ((rd_T32 l0_2 0).f2).length c528_2) ∧ w'.cell? ⟨ad528.block, ad528.off + 3, none⟩ = some (.int .i64 ((rd_T32 l0_2 1).f0)) ∧ w'.cell? ⟨ad528.block, ad528.off + 3 + 1, none⟩ = some (.int .i64 ((rd_T32 l0_2 1).f1)) ∧ w'.cell? ⟨ad528.block, ad528.off + 3 + 2, none⟩ = some (.slice A534_2 ((rd_T32 l0_2 1).f2).length c534_2)) ∧ (Kd.N k32 32 w' w.heap.size (fun k_ => (w.heap.size ≤ k_) ∧ some k_ ≠ (s_.2.1 : Value).ownBlock ∧ k_ ≠ gb526 ∧ k_ ≠ gb527 ∧ k_ ≠ s_.2.2) s_.1 t531) ∧ (Kd.N k32 32 w' w.heap.size (fun k_ => (w.heap.size ≤ k_) ∧ some k_ ≠ (s_.1 : Value).ownBlock ∧ k_ ≠ gb526 ∧ k_ ≠ gb527 ∧ k_ ≠ s_.2.2) s_.2.1 t537) ∧ (w'.heap[gb526]? = some (.cells #[.int .i64 a0_0, .int .i64 a0_1, .slice (some ad528) l0_2.length c0_2] 32 (0, 0))) ∧ (w'.heap[gb527]? = some (.cells #[.int .i64 0, .int .i64 0, .slice none 0 0] 32 (0, 0))) ∧ (w'.heap[s_.2.2]? = some (.cells #[.int .i64 0, .int .i64 0, .slice none 0 0] 32 (0, 0))) ∧ (w.heap.size ≤ s_.2.2) ∧ (w.heap.size ≤ s_.2.2) ∧ (gb526 ≠ s_.2.2) ∧ (s_.2.2 ≠ gb526) ∧ (gb527 ≠ s_.2.2) ∧ (s_.2.2 ≠ gb527) ∧ (Below w.heap.size w w')) ?_ ?_
     rotate_left
     ·intro hJ4_9_11
      refine join_ (σ := Value × Nat × Nat) 3 #[true, true, true, true, true, true, true, true, true, false, true, true, false, false] (fun s_ => [(19, .agg #[.int .i64 t529, .int .i64 t530, s_.1]), (3, .pointer (some ⟨s_.2.1, 0, none⟩)), (4, .pointer (some ⟨s_.2.2, 0, none⟩))]) (fun s_ w' => (w'.cell? ⟨gb526, 0, none⟩ = some (.int .i64 a0_0) ∧ w'.cell? ⟨gb526, 1, none⟩ = some (.int .i64 a0_1) ∧ w'.cell? ⟨gb526, 2, none⟩ = some (.slice (some ad528) l0_2.length c0_2) ∧ w'.cell? ad528 = some (.int .i64 ((rd_T32 l0_2 0).f0)) ∧ w'.cell? ⟨ad528.block, ad528.off + 1, none⟩ = some (.int .i64 ((rd_T32 l0_2 0).f1)) ∧ w'.cell? ⟨ad528.block, ad528.off + 2, none⟩ = some (.slice A528_2 ((rd_T32 l0_2 0).f2).length c528_2) ∧ w'.cell? ⟨ad528.block, ad528.off + 3, none⟩ = some (.int .i64 ((rd_T32 l0_2 1).f0)) ∧ w'.cell? ⟨ad528.block, ad528.off + 3 + 1, none⟩ = some (.int .i64 ((rd_T32 l0_2 1).f1)) ∧ w'.cell? ⟨ad528.block, ad528.off + 3 + 2, none⟩ = some (.slice A534_2 ((rd_T32 l0_2 1).f2).length c534_2)) ∧ (Kd.N k32 32 w' w.heap.size (fun k_ => (w.heap.size ≤ k_) ∧ k_ ≠ gb526 ∧ k_ ≠ gb527 ∧ k_ ≠ s_.2.1 ∧ k_ ≠ s_.2.2) s_.1 t531) ∧ (w'.heap[gb526]? = some (.cells #[.int .i64 a0_0, .int .i64 a0_1, .slice (some ad528) l0_2.length c0_2] 32 (0, 0))) ∧ (w'.heap[gb527]? = some (.cells #[.int .i64 0, .int .i64 0, .slice none 0 0] 32 (0, 0))) ∧ (w'.heap[s_.2.1]? = some (.cells #[.int .i64 0, .int .i64 0, .slice none 0 0] 32 (0, 0))) ∧ (w'.heap[s_.2.2]? = some (.cells #[.int .i64 0, .int .i64 0, .slice none 0 0] 32 (0, 0))) ∧ (w.heap.size ≤ s_.2.1) ∧ (w.heap.size ≤ s_.2.1) ∧ (gb526 ≠ s_.2.1) ∧ (s_.2.1 ≠ gb526) ∧ (gb527 ≠ s_.2.1) ∧ (s_.2.1 ≠ gb527) ∧ (s_.2.2 ≠ s_.2.1) ∧ (s_.2.1 ≠ s_.2.2) ∧ (w.heap.size ≤ s_.2.2) ∧ (w.heap.size ≤ s_.2.2) ∧ (gb526 ≠ s_.2.2) ∧ (s_.2.2 ≠ gb526) ∧ (gb527 ≠ s_.2.2) ∧ (s_.2.2 ≠ gb527) ∧ (Below w.heap.size w w')) ?_ ?_
      rotate_left
      ·intro hJ4_10_11
       refine join_ (σ := Value × Value) 4 #[true, true, true, true, true, true, true, true, true, true, false, false, false, false] (fun s_ => [(19, .agg #[.int .i64 t529, .int .i64 t530, s_.1]), (24, .agg #[.int .i64 t535, .int .i64 t536, s_.2])]) (fun s_ w' => (w'.cell? ⟨gb526, 0, none⟩ = some (.int .i64 a0_0) ∧ w'.cell? ⟨gb526, 1, none⟩ = some (.int .i64 a0_1) ∧ w'.cell? ⟨gb526, 2, none⟩ = some (.slice (some ad528) l0_2.length c0_2) ∧ w'.cell? ad528 = some (.int .i64 ((rd_T32 l0_2 0).f0)) ∧ w'.cell? ⟨ad528.block, ad528.off + 1, none⟩ = some (.int .i64 ((rd_T32 l0_2 0).f1)) ∧ w'.cell? ⟨ad528.block, ad528.off + 2, none⟩ = some (.slice A528_2 ((rd_T32 l0_2 0).f2).length c528_2) ∧ w'.cell? ⟨ad528.block, ad528.off + 3, none⟩ = some (.int .i64 ((rd_T32 l0_2 1).f0)) ∧ w'.cell? ⟨ad528.block, ad528.off + 3 + 1, none⟩ = some (.int .i64 ((rd_T32 l0_2 1).f1)) ∧ w'.cell? ⟨ad528.block, ad528.off + 3 + 2, none⟩ = some (.slice A534_2 ((rd_T32 l0_2 1).f2).length c534_2)) ∧ (Kd.N k32 32 w' w.heap.size (fun k_ => (w.heap.size ≤ k_) ∧ some k_ ≠ (s_.2 : Value).ownBlock ∧ k_ ≠ gb526 ∧ k_ ≠ gb527) s_.1 t531) ∧ (Kd.N k32 32 w' w.heap.size (fun k_ => (w.heap.size ≤ k_) ∧ some k_ ≠ (s_.1 : Value).ownBlock ∧ k_ ≠ gb526 ∧ k_ ≠ gb527) s_.2 t537) ∧ (w'.heap[gb526]? = some (.cells #[.int .i64 a0_0, .int .i64 a0_1, .slice (some ad528) l0_2.length c0_2] 32 (0, 0))) ∧ (w'.heap[gb527]? = some (.cells #[.int .i64 0, .int .i64 0, .slice none 0 0] 32 (0, 0))) ∧ (Below w.heap.size w w')) ?_ ?_
       rotate_left
       ·intro hJ4_9
        refine join_ (σ := Value × Nat) 4 #[true, true, true, true, true, true, true, true, true, false, true, false, false, false] (fun s_ => [(19, .agg #[.int .i64 t529, .int .i64 t530, s_.1]), (3, .pointer (some ⟨s_.2, 0, none⟩))]) (fun s_ w' => (w'.cell? ⟨gb526, 0, none⟩ = some (.int .i64 a0_0) ∧ w'.cell? ⟨gb526, 1, none⟩ = some (.int .i64 a0_1) ∧ w'.cell? ⟨gb526, 2, none⟩ = some (.slice (some ad528) l0_2.length c0_2) ∧ w'.cell? ad528 = some (.int .i64 ((rd_T32 l0_2 0).f0)) ∧ w'.cell? ⟨ad528.block, ad528.off + 1, none⟩ = some (.int .i64 ((rd_T32 l0_2 0).f1)) ∧ w'.cell? ⟨ad528.block, ad528.off + 2, none⟩ = some (.slice A528_2 ((rd_T32 l0_2 0).f2).length c528_2) ∧ w'.cell? ⟨ad528.block, ad528.off + 3, none⟩ = some (.int .i64 ((rd_T32 l0_2 1).f0)) ∧ w'.cell? ⟨ad528.block, ad528.off + 3 + 1, none⟩ = some (.int .i64 ((rd_T32 l0_2 1).f1)) ∧ w'.cell? ⟨ad528.block, ad528.off + 3 + 2, none⟩ = some (.slice A534_2 ((rd_T32 l0_2 1).f2).length c534_2)) ∧ (Kd.N k32 32 w' w.heap.size (fun k_ => (w.heap.size ≤ k_) ∧ k_ ≠ gb526 ∧ k_ ≠ gb527 ∧ k_ ≠ s_.2) s_.1 t531) ∧ (w'.heap[gb526]? = some (.cells #[.int .i64 a0_0, .int .i64 a0_1, .slice (some ad528) l0_2.length c0_2] 32 (0, 0))) ∧ (w'.heap[gb527]? = some (.cells #[.int .i64 0, .int .i64 0, .slice none 0 0] 32 (0, 0))) ∧ (w'.heap[s_.2]? = some (.cells #[.int .i64 0, .int .i64 0, .slice none 0 0] 32 (0, 0))) ∧ (w.heap.size ≤ s_.2) ∧ (w.heap.size ≤ s_.2) ∧ (gb526 ≠ s_.2) ∧ (s_.2 ≠ gb526) ∧ (gb527 ≠ s_.2) ∧ (s_.2 ≠ gb527) ∧ (Below w.heap.size w w')) ?_ ?_
        rotate_left
        ·intro hJ4_10
         refine join_ (σ := Value × Nat) 4 #[true, true, true, true, true, true, true, true, true, false, false, true, false, false] (fun s_ => [(19, .agg #[.int .i64 t529, .int .i64 t530, s_.1]), (4, .pointer (some ⟨s_.2, 0, none⟩))]) (fun s_ w' => (w'.cell? ⟨gb526, 0, none⟩ = some (.int .i64 a0_0) ∧ w'.cell? ⟨gb526, 1, none⟩ = some (.int .i64 a0_1) ∧ w'.cell? ⟨gb526, 2, none⟩ = some (.slice (some ad528) l0_2.length c0_2) ∧ w'.cell? ad528 = some (.int .i64 ((rd_T32 l0_2 0).f0)) ∧ w'.cell? ⟨ad528.block, ad528.off + 1, none⟩ = some (.int .i64 ((rd_T32 l0_2 0).f1)) ∧ w'.cell? ⟨ad528.block, ad528.off + 2, none⟩ = some (.slice A528_2 ((rd_T32 l0_2 0).f2).length c528_2) ∧ w'.cell? ⟨ad528.block, ad528.off + 3, none⟩ = some (.int .i64 ((rd_T32 l0_2 1).f0)) ∧ w'.cell? ⟨ad528.block, ad528.off + 3 + 1, none⟩ = some (.int .i64 ((rd_T32 l0_2 1).f1)) ∧ w'.cell? ⟨ad528.block, ad528.off + 3 + 2, none⟩ = some (.slice A534_2 ((rd_T32 l0_2 1).f2).length c534_2)) ∧ (Kd.N k32 32 w' w.heap.size (fun k_ => (w.heap.size ≤ k_) ∧ k_ ≠ gb526 ∧ k_ ≠ gb527 ∧ k_ ≠ s_.2) s_.1 t531) ∧ (w'.heap[gb526]? = some (.cells #[.int .i64 a0_0, .int .i64 a0_1, .slice (some ad528) l0_2.length c0_2] 32 (0, 0))) ∧ (w'.heap[gb527]? = some (.cells #[.int .i64 0, .int .i64 0, .slice none 0 0] 32 (0, 0))) ∧ (w'.heap[s_.2]? = some (.cells #[.int .i64 0, .int .i64 0, .slice none 0 0] 32 (0, 0))) ∧ (w.heap.size ≤ s_.2) ∧ (w.heap.size ≤ s_.2) ∧ (gb526 ≠ s_.2) ∧ (s_.2 ≠ gb526) ∧ (gb527 ≠ s_.2) ∧ (s_.2 ≠ gb527) ∧ (Below w.heap.size w w')) ?_ ?_
         rotate_left
         ·intro hJ4_11
          refine join_ (σ := Nat × Nat) 4 #[true, true, true, true, false, true, true, true, true, false, true, true, false, false] (fun s_ => [(3, .pointer (some ⟨s_.1, 0, none⟩)), (4, .pointer (some ⟨s_.2, 0, none⟩))]) (fun s_ w' => (w'.cell? ⟨gb526, 0, none⟩ = some (.int .i64 a0_0) ∧ w'.cell? ⟨gb526, 1, none⟩ = some (.int .i64 a0_1) ∧ w'.cell? ⟨gb526, 2, none⟩ = some (.slice (some ad528) l0_2.length c0_2) ∧ w'.cell? ad528 = some (.int .i64 ((rd_T32 l0_2 0).f0)) ∧ w'.cell? ⟨ad528.block, ad528.off + 1, none⟩ = some (.int .i64 ((rd_T32 l0_2 0).f1)) ∧ w'.cell? ⟨ad528.block, ad528.off + 2, none⟩ = some (.slice A528_2 ((rd_T32 l0_2 0).f2).length c528_2) ∧ w'.cell? ⟨ad528.block, ad528.off + 3, none⟩ = some (.int .i64 ((rd_T32 l0_2 1).f0)) ∧ w'.cell? ⟨ad528.block, ad528.off + 3 + 1, none⟩ = some (.int .i64 ((rd_T32 l0_2 1).f1)) ∧ w'.cell? ⟨ad528.block, ad528.off + 3 + 2, none⟩ = some (.slice A534_2 ((rd_T32 l0_2 1).f2).length c534_2)) ∧ (w'.heap[gb526]? = some (.cells #[.int .i64 a0_0, .int .i64 a0_1, .slice (some ad528) l0_2.length c0_2] 32 (0, 0))) ∧ (w'.heap[gb527]? = some (.cells #[.int .i64 0, .int .i64 0, .slice none 0 0] 32 (0, 0))) ∧ (w'.heap[s_.1]? = some (.cells #[.int .i64 0, .int .i64 0, .slice none 0 0] 32 (0, 0))) ∧ (w'.heap[s_.2]? = some (.cells #[.int .i64 0, .int .i64 0, .slice none 0 0] 32 (0, 0))) ∧ (w.heap.size ≤ s_.1) ∧ (w.heap.size ≤ s_.1) ∧ (gb526 ≠ s_.1) ∧ (s_.1 ≠ gb526) ∧ (gb527 ≠ s_.1) ∧ (s_.1 ≠ gb527) ∧ (s_.2 ≠ s_.1) ∧ (s_.1 ≠ s_.2) ∧ (w.heap.size ≤ s_.2) ∧ (w.heap.size ≤ s_.2) ∧ (gb526 ≠ s_.2) ∧ (s_.2 ≠ gb526) ∧ (gb527 ≠ s_.2) ∧ (s_.2 ≠ gb527) ∧ (Below w.heap.size w w')) ?_ ?_
          rotate_left
          ·intro hJ10_11
           refine join_ (σ := Value) 5 #[true, true, true, true, true, true, true, true, true, false, false, false, false, false] (fun s_ => [(19, .agg #[.int .i64 t529, .int .i64 t530, s_])]) (fun s_ w' => (w'.cell? ⟨gb526, 0, none⟩ = some (.int .i64 a0_0) ∧ w'.cell? ⟨gb526, 1, none⟩ = some (.int .i64 a0_1) ∧ w'.cell? ⟨gb526, 2, none⟩ = some (.slice (some ad528) l0_2.length c0_2) ∧ w'.cell? ad528 = some (.int .i64 ((rd_T32 l0_2 0).f0)) ∧ w'.cell? ⟨ad528.block, ad528.off + 1, none⟩ = some (.int .i64 ((rd_T32 l0_2 0).f1)) ∧ w'.cell? ⟨ad528.block, ad528.off + 2, none⟩ = some (.slice A528_2 ((rd_T32 l0_2 0).f2).length c528_2) ∧ w'.cell? ⟨ad528.block, ad528.off + 3, none⟩ = some (.int .i64 ((rd_T32 l0_2 1).f0)) ∧ w'.cell? ⟨ad528.block, ad528.off + 3 + 1, none⟩ = some (.int .i64 ((rd_T32 l0_2 1).f1)) ∧ w'.cell? ⟨ad528.block, ad528.off + 3 + 2, none⟩ = some (.slice A534_2 ((rd_T32 l0_2 1).f2).length c534_2)) ∧ (Kd.N k32 32 w' w.heap.size (fun k_ => (w.heap.size ≤ k_) ∧ k_ ≠ gb526 ∧ k_ ≠ gb527) s_ t531) ∧ (w'.heap[gb526]? = some (.cells #[.int .i64 a0_0, .int .i64 a0_1, .slice (some ad528) l0_2.length c0_2] 32 (0, 0))) ∧ (w'.heap[gb527]? = some (.cells #[.int .i64 0, .int .i64 0, .slice none 0 0] 32 (0, 0))) ∧ (Below w.heap.size w w')) ?_ ?_
           rotate_left
           ·intro hJ4
            refine join_ (σ := Nat) 5 #[true, true, true, true, false, true, true, true, true, false, true, false, false, false] (fun s_ => [(3, .pointer (some ⟨s_, 0, none⟩))]) (fun s_ w' => (w'.cell? ⟨gb526, 0, none⟩ = some (.int .i64 a0_0) ∧ w'.cell? ⟨gb526, 1, none⟩ = some (.int .i64 a0_1) ∧ w'.cell? ⟨gb526, 2, none⟩ = some (.slice (some ad528) l0_2.length c0_2) ∧ w'.cell? ad528 = some (.int .i64 ((rd_T32 l0_2 0).f0)) ∧ w'.cell? ⟨ad528.block, ad528.off + 1, none⟩ = some (.int .i64 ((rd_T32 l0_2 0).f1)) ∧ w'.cell? ⟨ad528.block, ad528.off + 2, none⟩ = some (.slice A528_2 ((rd_T32 l0_2 0).f2).length c528_2) ∧ w'.cell? ⟨ad528.block, ad528.off + 3, none⟩ = some (.int .i64 ((rd_T32 l0_2 1).f0)) ∧ w'.cell? ⟨ad528.block, ad528.off + 3 + 1, none⟩ = some (.int .i64 ((rd_T32 l0_2 1).f1)) ∧ w'.cell? ⟨ad528.block, ad528.off + 3 + 2, none⟩ = some (.slice A534_2 ((rd_T32 l0_2 1).f2).length c534_2)) ∧ (w'.heap[gb526]? = some (.cells #[.int .i64 a0_0, .int .i64 a0_1, .slice (some ad528) l0_2.length c0_2] 32 (0, 0))) ∧ (w'.heap[gb527]? = some (.cells #[.int .i64 0, .int .i64 0, .slice none 0 0] 32 (0, 0))) ∧ (w'.heap[s_]? = some (.cells #[.int .i64 0, .int .i64 0, .slice none 0 0] 32 (0, 0))) ∧ (w.heap.size ≤ s_) ∧ (w.heap.size ≤ s_) ∧ (gb526 ≠ s_) ∧ (s_ ≠ gb526) ∧ (gb527 ≠ s_) ∧ (s_ ≠ gb527) ∧ (Below w.heap.size w w')) ?_ ?_
            rotate_left
            ·intro hJ10
             refine join_ (σ := Nat) 5 #[true, true, true, true, false, true, true, true, true, false, false, true, false, false] (fun s_ => [(4, .pointer (some ⟨s_, 0, none⟩))]) (fun s_ w' => (w'.cell? ⟨gb526, 0, none⟩ = some (.int .i64 a0_0) ∧ w'.cell? ⟨gb526, 1, none⟩ = some (.int .i64 a0_1) ∧ w'.cell? ⟨gb526, 2, none⟩ = some (.slice (some ad528) l0_2.length c0_2) ∧ w'.cell? ad528 = some (.int .i64 ((rd_T32 l0_2 0).f0)) ∧ w'.cell? ⟨ad528.block, ad528.off + 1, none⟩ = some (.int .i64 ((rd_T32 l0_2 0).f1)) ∧ w'.cell? ⟨ad528.block, ad528.off + 2, none⟩ = some (.slice A528_2 ((rd_T32 l0_2 0).f2).length c528_2) ∧ w'.cell? ⟨ad528.block, ad528.off + 3, none⟩ = some (.int .i64 ((rd_T32 l0_2 1).f0)) ∧ w'.cell? ⟨ad528.block, ad528.off + 3 + 1, none⟩ = some (.int .i64 ((rd_T32 l0_2 1).f1)) ∧ w'.cell? ⟨ad528.block, ad528.off + 3 + 2, none⟩ = some (.slice A534_2 ((rd_T32 l0_2 1).f2).length c534_2)) ∧ (w'.heap[gb526]? = some (.cells #[.int .i64 a0_0, .int .i64 a0_1, .slice (some ad528) l0_2.length c0_2] 32 (0, 0))) ∧ (w'.heap[gb527]? = some (.cells #[.int .i64 0, .int .i64 0, .slice none 0 0] 32 (0, 0))) ∧ (w'.heap[s_]? = some (.cells #[.int .i64 0, .int .i64 0, .slice none 0 0] 32 (0, 0))) ∧ (w.heap.size ≤ s_) ∧ (w.heap.size ≤ s_) ∧ (gb526 ≠ s_) ∧ (s_ ≠ gb526) ∧ (gb527 ≠ s_) ∧ (s_ ≠ gb527) ∧ (Below w.heap.size w w')) ?_ ?_
             rotate_left
             ·intro hJ11
              refine three_ (i := 4) (j := 10) (k := 11) (Ni := some 19) (Nj := some 3) (Nk := some 4) #[true, true, true, true, true, true, true, true, true, false, false, false, false, false] #[true, true, true, true, false, true, true, true, true, false, true, false, false, false] #[true, true, true, true, false, true, true, true, true, false, false, true, false, false] rfl rfl rfl rfl rfl rfl (three_of HT_.out (by kernel_rfl)) (by decide) (by decide) (by decide) (fun K hK => ?_) (fun K hK => ?_) (fun K hK => ?_)
              ·skip
               refine goes_ Try.func78 (by kernel_rfl) rfl #[.agg #[.int .i64 ((rd_T32 l0_2 0).f0), .int .i64 ((rd_T32 l0_2 0).f1), .slice A528_2 ((rd_T32 l0_2 0).f2).length c528_2]] (by rfl) rfl rfl ab1_ ?_
               with_reducible refine (ih k (by omega) ((rd_T32 l0_2 0).f0) ((rd_T32 l0_2 0).f1) _ _ ((rd_T32 l0_2 0).f2) t529 t530 t531 _ (aC_ (Kd.C_below HR528_2.out HB.out)) HC528_2.out A9.out).mono ?_
               rintro e w18 ⟨v532, rfl, ho0, hb⟩
               refine ⟨_, rfl, ?_⟩
               have HO533 := am (Kd.N_lower (Kd.N_mono (ok' := fun k_ => (w.heap.size ≤ k_) ∧ k_ ≠ gb526 ∧ k_ ≠ gb527) ho0 (fun k_ hk_ => ⟨(Nat.le_trans (below_size ab12_) hk_), (frb_ BK526.out k_ hk_), (frb_ BK527.out k_ hk_)⟩)) (below_size ab12_))
               replace BK526 := am (bbl_ BK526.out hb)
               replace BK527 := am (bbl_ BK527.out hb)
               replace HB := am (below_step ab12_ hb)
               (try clear hb)
               (try clear hb2)
               (try clear hk)
               (try clear hi)
               (try clear ho0)
               refine hK.out _ _ (hS0_ _ BK526.out HB.out) (fun hHeld => ?_)
               clear hK K
               refine norm_ (a' := ?_) ?_ ?_
               rotate_left
               ·show Act.put _ (some 19) _ = _
                simp only [Act.put, List.setIfInBounds_toArray, List.set_cons_zero, List.set_cons_succ, i64_w, i32_w]
                rfl
               exact norm_ nm_ (hJ4 (v532) _ ⟨hHeld, (aN_ HO533.out), (aG_ BK526.out), (aG_ BK527.out), ab12_⟩)
              ·skip
               refine box_step ?hg (N := 3) ?hd (cs := #[.int .i64 0, .int .i64 0, .slice none 0 0]) (t := 32) ?hr ?_; (case hd => rfl); (case hg => rfl); (case hr => first | (go_simp; done) | (go_simp; rfl))
               intro gb540 hg w18 hbox hb
               have BK540 := am (hbox)
               have GW540 := am ((by rw [hg]; exact (below_size ab12_) : w.heap.size ≤ gb540))
               have GE540 := am ((by rw [hg]; exact (below_size ab12_) : w.heap.size ≤ gb540))
               replace HB := am (below_step ab12_ hb)
               have NB526_540 := am ((by rw [hg]; exact Nat.ne_of_lt (blt_ BK526.out) : gb526 ≠ gb540))
               have NB540_526 := am ((by rw [hg]; exact Nat.ne_of_gt (blt_ BK526.out) : gb540 ≠ gb526))
               replace BK526 := am (bbl_ BK526.out hb)
               have NB527_540 := am ((by rw [hg]; exact Nat.ne_of_lt (blt_ BK527.out) : gb527 ≠ gb540))
               have NB540_527 := am ((by rw [hg]; exact Nat.ne_of_gt (blt_ BK527.out) : gb540 ≠ gb527))
               replace BK527 := am (bbl_ BK527.out hb)
               clear hb hbox hg
               refine hK.out _ _ (hS0_ _ BK526.out HB.out) (fun hHeld => ?_)
               clear hK K
               refine norm_ (a' := ?_) ?_ ?_
               rotate_left
               ·show Act.put _ (some 3) _ = _
                simp only [Act.put, List.setIfInBounds_toArray, List.set_cons_zero, List.set_cons_succ, i64_w, i32_w]
                rfl
               exact norm_ nm_ (hJ10 (gb540) _ ⟨hHeld, (aG_ BK526.out), (aG_ BK527.out), (aG_ BK540.out), GW540.out, GE540.out, NB526_540.out, NB540_526.out, NB527_540.out, NB540_527.out, ab16_⟩)
              ·skip
               refine box_step ?hg (N := 4) ?hd (cs := #[.int .i64 0, .int .i64 0, .slice none 0 0]) (t := 32) ?hr ?_; (case hd => rfl); (case hg => rfl); (case hr => first | (go_simp; done) | (go_simp; rfl))
               intro gb541 hg w18 hbox hb
               have BK541 := am (hbox)
               have GW541 := am ((by rw [hg]; exact (below_size ab12_) : w.heap.size ≤ gb541))
               have GE541 := am ((by rw [hg]; exact (below_size ab12_) : w.heap.size ≤ gb541))
               replace HB := am (below_step ab12_ hb)
               have NB526_541 := am ((by rw [hg]; exact Nat.ne_of_lt (blt_ BK526.out) : gb526 ≠ gb541))
               have NB541_526 := am ((by rw [hg]; exact Nat.ne_of_gt (blt_ BK526.out) : gb541 ≠ gb526))
               replace BK526 := am (bbl_ BK526.out hb)
               have NB527_541 := am ((by rw [hg]; exact Nat.ne_of_lt (blt_ BK527.out) : gb527 ≠ gb541))
               have NB541_527 := am ((by rw [hg]; exact Nat.ne_of_gt (blt_ BK527.out) : gb541 ≠ gb527))
               replace BK527 := am (bbl_ BK527.out hb)
               clear hb hbox hg
               refine hK.out _ _ (hS0_ _ BK526.out HB.out) (fun hHeld => ?_)
               clear hK K
               refine norm_ (a' := ?_) ?_ ?_
               rotate_left
               ·show Act.put _ (some 4) _ = _
                simp only [Act.put, List.setIfInBounds_toArray, List.set_cons_zero, List.set_cons_succ, i64_w, i32_w]
                rfl
               exact norm_ nm_ (hJ11 (gb541) _ ⟨hHeld, (aG_ BK526.out), (aG_ BK527.out), (aG_ BK541.out), GW541.out, GE541.out, NB526_541.out, NB541_526.out, NB527_541.out, NB541_527.out, ab17_⟩)
             ·skip
              rintro gb541 w19 ⟨hS_, h0_, h1_, h2_, h3_, h4_, h5_, h6_, h7_, h8_, h9_⟩
              replace BK526 : Aside0 (w19.heap[gb526]? = some (.cells #[.int .i64 a0_0, .int .i64 a0_1, .slice (some ad528) l0_2.length c0_2] 32 (0, 0))) := ⟨h0_⟩
              replace BK527 : Aside0 (w19.heap[gb527]? = some (.cells #[.int .i64 0, .int .i64 0, .slice none 0 0] 32 (0, 0))) := ⟨h1_⟩
              have BK541 : Aside0 (w19.heap[gb541]? = some (.cells #[.int .i64 0, .int .i64 0, .slice none 0 0] 32 (0, 0))) := ⟨h2_⟩
              have GW541 : Aside0 (w.heap.size ≤ gb541) := ⟨h3_⟩
              have GE541 : Aside0 (w.heap.size ≤ gb541) := ⟨h4_⟩
              have NB526_541 : Aside0 (gb526 ≠ gb541) := ⟨h5_⟩
              have NB541_526 : Aside0 (gb541 ≠ gb526) := ⟨h6_⟩
              have NB527_541 : Aside0 (gb527 ≠ gb541) := ⟨h7_⟩
              have NB541_527 : Aside0 (gb541 ≠ gb527) := ⟨h8_⟩
              replace HB : Aside0 (Below w.heap.size w w19) := ⟨h9_⟩
              clear h0_ h1_ h2_ h3_ h4_ h5_ h6_ h7_ h8_ h9_
              have hHeld := hS0_ _ BK526.out HB.out
              refine norm_ (a' := ?_) ?_ ?_
              rotate_left
              ·simp only [putAll, Act.put, List.setIfInBounds_toArray, List.set_cons_zero, List.set_cons_succ]
               rfl
              refine two_ (i := 4) (j := 10) (Ni := some 19) (Nj := some 3) #[true, true, true, true, true, true, true, true, true, false, false, true, false, false] #[true, true, true, true, false, true, true, true, true, false, true, true, false, false] rfl rfl rfl rfl (two_of HT_.out (by kernel_rfl)) (by decide) (by decide) (fun K hK => ?_) (fun K hK => ?_)
              ·skip
               refine goes_ Try.func78 (by kernel_rfl) rfl #[.agg #[.int .i64 ((rd_T32 l0_2 0).f0), .int .i64 ((rd_T32 l0_2 0).f1), .slice A528_2 ((rd_T32 l0_2 0).f2).length c528_2]] (by rfl) rfl rfl ab1_ ?_
               with_reducible refine (ih k (by omega) ((rd_T32 l0_2 0).f0) ((rd_T32 l0_2 0).f1) _ _ ((rd_T32 l0_2 0).f2) t529 t530 t531 _ (aC_ (Kd.C_below HR528_2.out HB.out)) HC528_2.out A9.out).mono ?_
               rintro e w20 ⟨v532, rfl, ho0, hb⟩
               refine ⟨_, rfl, ?_⟩
               have HO533 := am (Kd.N_lower (Kd.N_mono (ok' := fun k_ => (w.heap.size ≤ k_) ∧ k_ ≠ gb526 ∧ k_ ≠ gb527 ∧ k_ ≠ gb541) ho0 (fun k_ hk_ => ⟨(Nat.le_trans (below_size ab17_) hk_), (frb_ BK526.out k_ hk_), (frb_ BK527.out k_ hk_), (frb_ BK541.out k_ hk_)⟩)) (below_size ab17_))
               replace BK526 := am (bbl_ BK526.out hb)
               replace BK527 := am (bbl_ BK527.out hb)
               replace BK541 := am (bbl_ BK541.out hb)
               replace HB := am (below_step ab17_ hb)
               (try clear hb)
               (try clear hb2)
               (try clear hk)
               (try clear hi)
               (try clear ho0)
               refine hK.out _ _ (hS0_ _ BK526.out HB.out) (fun hHeld => ?_)
               clear hK K
               refine norm_ (a' := ?_) ?_ ?_
               rotate_left
               ·show Act.put _ (some 19) _ = _
                simp only [Act.put, List.setIfInBounds_toArray, List.set_cons_zero, List.set_cons_succ, i64_w, i32_w]
                rfl
               exact norm_ nm_ (hJ4_11 (v532, gb541) _ ⟨hHeld, (aN_ HO533.out), (aG_ BK526.out), (aG_ BK527.out), (aG_ BK541.out), GW541.out, GE541.out, NB526_541.out, NB541_526.out, NB527_541.out, NB541_527.out, ab17_⟩)
              ·skip
               refine box_step ?hg (N := 3) ?hd (cs := #[.int .i64 0, .int .i64 0, .slice none 0 0]) (t := 32) ?hr ?_; (case hd => rfl); (case hg => rfl); (case hr => first | (go_simp; done) | (go_simp; rfl))
               intro gb540 hg w20 hbox hb
               have BK540 := am (hbox)
               have GW540 := am ((by rw [hg]; exact (below_size ab17_) : w.heap.size ≤ gb540))
               have GE540 := am ((by rw [hg]; exact (below_size ab17_) : w.heap.size ≤ gb540))
               replace HB := am (below_step ab17_ hb)
               have NB526_540 := am ((by rw [hg]; exact Nat.ne_of_lt (blt_ BK526.out) : gb526 ≠ gb540))
               have NB540_526 := am ((by rw [hg]; exact Nat.ne_of_gt (blt_ BK526.out) : gb540 ≠ gb526))
               replace BK526 := am (bbl_ BK526.out hb)
               have NB527_540 := am ((by rw [hg]; exact Nat.ne_of_lt (blt_ BK527.out) : gb527 ≠ gb540))
               have NB540_527 := am ((by rw [hg]; exact Nat.ne_of_gt (blt_ BK527.out) : gb540 ≠ gb527))
               replace BK527 := am (bbl_ BK527.out hb)
               have NB541_540 := am ((by rw [hg]; exact Nat.ne_of_lt (blt_ BK541.out) : gb541 ≠ gb540))
               have NB540_541 := am ((by rw [hg]; exact Nat.ne_of_gt (blt_ BK541.out) : gb540 ≠ gb541))
               replace BK541 := am (bbl_ BK541.out hb)
               clear hb hbox hg
               refine hK.out _ _ (hS0_ _ BK526.out HB.out) (fun hHeld => ?_)
               clear hK K
               refine norm_ (a' := ?_) ?_ ?_
               rotate_left
               ·show Act.put _ (some 3) _ = _
                simp only [Act.put, List.setIfInBounds_toArray, List.set_cons_zero, List.set_cons_succ, i64_w, i32_w]
                rfl
               exact norm_ nm_ (hJ10_11 (gb540, gb541) _ ⟨hHeld, (aG_ BK526.out), (aG_ BK527.out), (aG_ BK540.out), (aG_ BK541.out), GW540.out, GE540.out, NB526_540.out, NB540_526.out, NB527_540.out, NB540_527.out, NB541_540.out, NB540_541.out, GW541.out, GE541.out, NB526_541.out, NB541_526.out, NB527_541.out, NB541_527.out, ab59_⟩)
            ·skip
             rintro gb540 w19 ⟨hS_, h0_, h1_, h2_, h3_, h4_, h5_, h6_, h7_, h8_, h9_⟩
             replace BK526 : Aside0 (w19.heap[gb526]? = some (.cells #[.int .i64 a0_0, .int .i64 a0_1, .slice (some ad528) l0_2.length c0_2] 32 (0, 0))) := ⟨h0_⟩
             replace BK527 : Aside0 (w19.heap[gb527]? = some (.cells #[.int .i64 0, .int .i64 0, .slice none 0 0] 32 (0, 0))) := ⟨h1_⟩
             have BK540 : Aside0 (w19.heap[gb540]? = some (.cells #[.int .i64 0, .int .i64 0, .slice none 0 0] 32 (0, 0))) := ⟨h2_⟩
             have GW540 : Aside0 (w.heap.size ≤ gb540) := ⟨h3_⟩
             have GE540 : Aside0 (w.heap.size ≤ gb540) := ⟨h4_⟩
             have NB526_540 : Aside0 (gb526 ≠ gb540) := ⟨h5_⟩
             have NB540_526 : Aside0 (gb540 ≠ gb526) := ⟨h6_⟩
             have NB527_540 : Aside0 (gb527 ≠ gb540) := ⟨h7_⟩
             have NB540_527 : Aside0 (gb540 ≠ gb527) := ⟨h8_⟩
             replace HB : Aside0 (Below w.heap.size w w19) := ⟨h9_⟩
             clear h0_ h1_ h2_ h3_ h4_ h5_ h6_ h7_ h8_ h9_
             have hHeld := hS0_ _ BK526.out HB.out
             refine norm_ (a' := ?_) ?_ ?_
             rotate_left
             ·simp only [putAll, Act.put, List.setIfInBounds_toArray, List.set_cons_zero, List.set_cons_succ]
              rfl
             refine two_ (i := 4) (j := 11) (Ni := some 19) (Nj := some 4) #[true, true, true, true, true, true, true, true, true, false, true, false, false, false] #[true, true, true, true, false, true, true, true, true, false, true, true, false, false] rfl rfl rfl rfl (two_of HT_.out (by kernel_rfl)) (by decide) (by decide) (fun K hK => ?_) (fun K hK => ?_)
             ·skip
              refine goes_ Try.func78 (by kernel_rfl) rfl #[.agg #[.int .i64 ((rd_T32 l0_2 0).f0), .int .i64 ((rd_T32 l0_2 0).f1), .slice A528_2 ((rd_T32 l0_2 0).f2).length c528_2]] (by rfl) rfl rfl ab1_ ?_
              with_reducible refine (ih k (by omega) ((rd_T32 l0_2 0).f0) ((rd_T32 l0_2 0).f1) _ _ ((rd_T32 l0_2 0).f2) t529 t530 t531 _ (aC_ (Kd.C_below HR528_2.out HB.out)) HC528_2.out A9.out).mono ?_
              rintro e w20 ⟨v532, rfl, ho0, hb⟩
              refine ⟨_, rfl, ?_⟩
              have HO533 := am (Kd.N_lower (Kd.N_mono (ok' := fun k_ => (w.heap.size ≤ k_) ∧ k_ ≠ gb526 ∧ k_ ≠ gb527 ∧ k_ ≠ gb540) ho0 (fun k_ hk_ => ⟨(Nat.le_trans (below_size ab16_) hk_), (frb_ BK526.out k_ hk_), (frb_ BK527.out k_ hk_), (frb_ BK540.out k_ hk_)⟩)) (below_size ab16_))
              replace BK526 := am (bbl_ BK526.out hb)
              replace BK527 := am (bbl_ BK527.out hb)
              replace BK540 := am (bbl_ BK540.out hb)
              replace HB := am (below_step ab16_ hb)
              (try clear hb)
              (try clear hb2)
              (try clear hk)
              (try clear hi)
              (try clear ho0)
              refine hK.out _ _ (hS0_ _ BK526.out HB.out) (fun hHeld => ?_)
              clear hK K
              refine norm_ (a' := ?_) ?_ ?_
              rotate_left
              ·show Act.put _ (some 19) _ = _
               simp only [Act.put, List.setIfInBounds_toArray, List.set_cons_zero, List.set_cons_succ, i64_w, i32_w]
               rfl
              exact norm_ nm_ (hJ4_10 (v532, gb540) _ ⟨hHeld, (aN_ HO533.out), (aG_ BK526.out), (aG_ BK527.out), (aG_ BK540.out), GW540.out, GE540.out, NB526_540.out, NB540_526.out, NB527_540.out, NB540_527.out, ab16_⟩)
             ·skip
              refine box_step ?hg (N := 4) ?hd (cs := #[.int .i64 0, .int .i64 0, .slice none 0 0]) (t := 32) ?hr ?_; (case hd => rfl); (case hg => rfl); (case hr => first | (go_simp; done) | (go_simp; rfl))
              intro gb541 hg w20 hbox hb
              have BK541 := am (hbox)
              have GW541 := am ((by rw [hg]; exact (below_size ab16_) : w.heap.size ≤ gb541))
              have GE541 := am ((by rw [hg]; exact (below_size ab16_) : w.heap.size ≤ gb541))
              replace HB := am (below_step ab16_ hb)
              have NB526_541 := am ((by rw [hg]; exact Nat.ne_of_lt (blt_ BK526.out) : gb526 ≠ gb541))
              have NB541_526 := am ((by rw [hg]; exact Nat.ne_of_gt (blt_ BK526.out) : gb541 ≠ gb526))
              replace BK526 := am (bbl_ BK526.out hb)
              have NB527_541 := am ((by rw [hg]; exact Nat.ne_of_lt (blt_ BK527.out) : gb527 ≠ gb541))
              have NB541_527 := am ((by rw [hg]; exact Nat.ne_of_gt (blt_ BK527.out) : gb541 ≠ gb527))
              replace BK527 := am (bbl_ BK527.out hb)
              have NB540_541 := am ((by rw [hg]; exact Nat.ne_of_lt (blt_ BK540.out) : gb540 ≠ gb541))
              have NB541_540 := am ((by rw [hg]; exact Nat.ne_of_gt (blt_ BK540.out) : gb541 ≠ gb540))
              replace BK540 := am (bbl_ BK540.out hb)
              clear hb hbox hg
              refine hK.out _ _ (hS0_ _ BK526.out HB.out) (fun hHeld => ?_)
              clear hK K
              refine norm_ (a' := ?_) ?_ ?_
              rotate_left
              ·show Act.put _ (some 4) _ = _
               simp only [Act.put, List.setIfInBounds_toArray, List.set_cons_zero, List.set_cons_succ, i64_w, i32_w]
               rfl
              exact norm_ nm_ (hJ10_11 (gb540, gb541) _ ⟨hHeld, (aG_ BK526.out), (aG_ BK527.out), (aG_ BK540.out), (aG_ BK541.out), GW540.out, GE540.out, NB526_540.out, NB540_526.out, NB527_540.out, NB540_527.out, NB541_540.out, NB540_541.out, GW541.out, GE541.out, NB526_541.out, NB541_526.out, NB527_541.out, NB541_527.out, ab8_⟩)
           ·skip
            rintro v532 w19 ⟨hS_, h0_, h1_, h2_, h3_⟩
            have HO533 : Aside0 (Kd.N k32 32 w19 w.heap.size (fun k_ => (w.heap.size ≤ k_) ∧ k_ ≠ gb526 ∧ k_ ≠ gb527) v532 t531) := ⟨h0_⟩
            replace BK526 : Aside0 (w19.heap[gb526]? = some (.cells #[.int .i64 a0_0, .int .i64 a0_1, .slice (some ad528) l0_2.length c0_2] 32 (0, 0))) := ⟨h1_⟩
            replace BK527 : Aside0 (w19.heap[gb527]? = some (.cells #[.int .i64 0, .int .i64 0, .slice none 0 0] 32 (0, 0))) := ⟨h2_⟩
            replace HB : Aside0 (Below w.heap.size w w19) := ⟨h3_⟩
            clear h0_ h1_ h2_ h3_
            have hHeld := hS0_ _ BK526.out HB.out
            refine norm_ (a' := ?_) ?_ ?_
            rotate_left
            ·simp only [putAll, Act.put, List.setIfInBounds_toArray, List.set_cons_zero, List.set_cons_succ]
             rfl
            refine three_ (i := 9) (j := 10) (k := 11) (Ni := some 24) (Nj := some 3) (Nk := some 4) #[true, true, true, true, true, true, true, true, true, true, false, false, false, false] #[true, true, true, true, true, true, true, true, true, false, true, false, false, false] #[true, true, true, true, true, true, true, true, true, false, false, true, false, false] rfl rfl rfl rfl rfl rfl (three_of HT_.out (by kernel_rfl)) (by decide) (by decide) (by decide) (fun K hK => ?_) (fun K hK => ?_) (fun K hK => ?_)
            ·skip
             refine goes_ Try.func78 (by kernel_rfl) rfl #[.agg #[.int .i64 ((rd_T32 l0_2 1).f0), .int .i64 ((rd_T32 l0_2 1).f1), .slice A534_2 ((rd_T32 l0_2 1).f2).length c534_2]] (by rfl) rfl rfl ab1_ ?_
             with_reducible refine (ih k (by omega) ((rd_T32 l0_2 1).f0) ((rd_T32 l0_2 1).f1) _ _ ((rd_T32 l0_2 1).f2) t535 t536 t537 _ (aC_ (Kd.C_below HR534_2.out HB.out)) HC534_2.out A11.out).mono ?_
             rintro e w20 ⟨v538, rfl, ho0, hb⟩
             refine ⟨_, rfl, ?_⟩
             have HO539 := am (Kd.N_lower (Kd.N_mono (ok' := fun k_ => (w.heap.size ≤ k_) ∧ some k_ ≠ (v532 : Value).ownBlock ∧ k_ ≠ gb526 ∧ k_ ≠ gb527) ho0 (fun k_ hk_ => ⟨(Nat.le_trans (below_size ab12_) hk_), (Kd.fresh' (Kd.N_lt (aN_ HO533.out)) k_ hk_), (frb_ BK526.out k_ hk_), (frb_ BK527.out k_ hk_)⟩)) (below_size ab12_))
             replace HO533 := am (Kd.N_elder' (aN_ HO533.out) (by first | exact Kd.N_base ho0 | exact Kd.N_base (Kd.R_N ho0)) hb)
             replace BK526 := am (bbl_ BK526.out hb)
             replace BK527 := am (bbl_ BK527.out hb)
             replace HB := am (below_step ab12_ hb)
             (try clear hb)
             (try clear hb2)
             (try clear hk)
             (try clear hi)
             (try clear ho0)
             refine hK.out _ _ (hS0_ _ BK526.out HB.out) (fun hHeld => ?_)
             clear hK K
             refine norm_ (a' := ?_) ?_ ?_
             rotate_left
             ·show Act.put _ (some 24) _ = _
              simp only [Act.put, List.setIfInBounds_toArray, List.set_cons_zero, List.set_cons_succ, i64_w, i32_w]
              rfl
             exact norm_ nm_ (hJ4_9 (v532, v538) _ ⟨hHeld, (by (with_reducible repeat (first | apply Kd.N_alloc | apply Kd.N_drewN | apply Kd.N_drew)); exact Kd.N_mono HO533.out (fun _ hk => ⟨hk.1.1, ⟨hk.2, ⟨hk.1.2.1, hk.1.2.2⟩⟩⟩)), (aN_ HO539.out), (aG_ BK526.out), (aG_ BK527.out), ab12_⟩)
            ·skip
             refine box_step ?hg (N := 3) ?hd (cs := #[.int .i64 0, .int .i64 0, .slice none 0 0]) (t := 32) ?hr ?_; (case hd => rfl); (case hg => rfl); (case hr => first | (go_simp; done) | (go_simp; rfl))
             intro gb540 hg w20 hbox hb
             replace HO533 := am (Kd.N_below (Kd.N_elderB (aN_ HO533.out) gb540 (Nat.le_of_eq hg.symm)) hb)
             have BK540 := am (hbox)
             have GW540 := am ((by rw [hg]; exact (below_size ab12_) : w.heap.size ≤ gb540))
             have GE540 := am ((by rw [hg]; exact (below_size ab12_) : w.heap.size ≤ gb540))
             replace HB := am (below_step ab12_ hb)
             have NB526_540 := am ((by rw [hg]; exact Nat.ne_of_lt (blt_ BK526.out) : gb526 ≠ gb540))
             have NB540_526 := am ((by rw [hg]; exact Nat.ne_of_gt (blt_ BK526.out) : gb540 ≠ gb526))
             replace BK526 := am (bbl_ BK526.out hb)
             have NB527_540 := am ((by rw [hg]; exact Nat.ne_of_lt (blt_ BK527.out) : gb527 ≠ gb540))
             have NB540_527 := am ((by rw [hg]; exact Nat.ne_of_gt (blt_ BK527.out) : gb540 ≠ gb527))
             replace BK527 := am (bbl_ BK527.out hb)
             clear hb hbox hg
             refine hK.out _ _ (hS0_ _ BK526.out HB.out) (fun hHeld => ?_)
             clear hK K
             refine norm_ (a' := ?_) ?_ ?_
             rotate_left
             ·show Act.put _ (some 3) _ = _
              simp only [Act.put, List.setIfInBounds_toArray, List.set_cons_zero, List.set_cons_succ, i64_w, i32_w]
              rfl
             exact norm_ nm_ (hJ4_10 (v532, gb540) _ ⟨hHeld, (by (with_reducible repeat (first | apply Kd.N_alloc | apply Kd.N_drewN | apply Kd.N_drew)); exact Kd.N_mono HO533.out (fun _ hk => ⟨hk.1.1, ⟨hk.1.2.1, ⟨hk.1.2.2, hk.2⟩⟩⟩)), (aG_ BK526.out), (aG_ BK527.out), (aG_ BK540.out), GW540.out, GE540.out, NB526_540.out, NB540_526.out, NB527_540.out, NB540_527.out, ab16_⟩)
            ·skip
             refine box_step ?hg (N := 4) ?hd (cs := #[.int .i64 0, .int .i64 0, .slice none 0 0]) (t := 32) ?hr ?_; (case hd => rfl); (case hg => rfl); (case hr => first | (go_simp; done) | (go_simp; rfl))
             intro gb541 hg w20 hbox hb
             replace HO533 := am (Kd.N_below (Kd.N_elderB (aN_ HO533.out) gb541 (Nat.le_of_eq hg.symm)) hb)
             have BK541 := am (hbox)
             have GW541 := am ((by rw [hg]; exact (below_size ab12_) : w.heap.size ≤ gb541))
             have GE541 := am ((by rw [hg]; exact (below_size ab12_) : w.heap.size ≤ gb541))
             replace HB := am (below_step ab12_ hb)
             have NB526_541 := am ((by rw [hg]; exact Nat.ne_of_lt (blt_ BK526.out) : gb526 ≠ gb541))
             have NB541_526 := am ((by rw [hg]; exact Nat.ne_of_gt (blt_ BK526.out) : gb541 ≠ gb526))
             replace BK526 := am (bbl_ BK526.out hb)
             have NB527_541 := am ((by rw [hg]; exact Nat.ne_of_lt (blt_ BK527.out) : gb527 ≠ gb541))
             have NB541_527 := am ((by rw [hg]; exact Nat.ne_of_gt (blt_ BK527.out) : gb541 ≠ gb527))
             replace BK527 := am (bbl_ BK527.out hb)
             clear hb hbox hg
             refine hK.out _ _ (hS0_ _ BK526.out HB.out) (fun hHeld => ?_)
             clear hK K
             refine norm_ (a' := ?_) ?_ ?_
             rotate_left
             ·show Act.put _ (some 4) _ = _
              simp only [Act.put, List.setIfInBounds_toArray, List.set_cons_zero, List.set_cons_succ, i64_w, i32_w]
              rfl
             exact norm_ nm_ (hJ4_11 (v532, gb541) _ ⟨hHeld, (by (with_reducible repeat (first | apply Kd.N_alloc | apply Kd.N_drewN | apply Kd.N_drew)); exact Kd.N_mono HO533.out (fun _ hk => ⟨hk.1.1, ⟨hk.1.2.1, ⟨hk.1.2.2, hk.2⟩⟩⟩)), (aG_ BK526.out), (aG_ BK527.out), (aG_ BK541.out), GW541.out, GE541.out, NB526_541.out, NB541_526.out, NB527_541.out, NB541_527.out, ab17_⟩)
          ·skip
           rintro ⟨gb540, gb541⟩ w20 ⟨hS_, h0_, h1_, h2_, h3_, h4_, h5_, h6_, h7_, h8_, h9_, h10_, h11_, h12_, h13_, h14_, h15_, h16_, h17_, h18_⟩
           replace BK526 : Aside0 (w20.heap[gb526]? = some (.cells #[.int .i64 a0_0, .int .i64 a0_1, .slice (some ad528) l0_2.length c0_2] 32 (0, 0))) := ⟨h0_⟩
           replace BK527 : Aside0 (w20.heap[gb527]? = some (.cells #[.int .i64 0, .int .i64 0, .slice none 0 0] 32 (0, 0))) := ⟨h1_⟩
           have BK540 : Aside0 (w20.heap[gb540]? = some (.cells #[.int .i64 0, .int .i64 0, .slice none 0 0] 32 (0, 0))) := ⟨h2_⟩
           have BK541 : Aside0 (w20.heap[gb541]? = some (.cells #[.int .i64 0, .int .i64 0, .slice none 0 0] 32 (0, 0))) := ⟨h3_⟩
           have GW540 : Aside0 (w.heap.size ≤ gb540) := ⟨h4_⟩
           have GE540 : Aside0 (w.heap.size ≤ gb540) := ⟨h5_⟩
           have NB526_540 : Aside0 (gb526 ≠ gb540) := ⟨h6_⟩
           have NB540_526 : Aside0 (gb540 ≠ gb526) := ⟨h7_⟩
           have NB527_540 : Aside0 (gb527 ≠ gb540) := ⟨h8_⟩
           have NB540_527 : Aside0 (gb540 ≠ gb527) := ⟨h9_⟩
           have NB541_540 : Aside0 (gb541 ≠ gb540) := ⟨h10_⟩
           have NB540_541 : Aside0 (gb540 ≠ gb541) := ⟨h11_⟩
           have GW541 : Aside0 (w.heap.size ≤ gb541) := ⟨h12_⟩
           have GE541 : Aside0 (w.heap.size ≤ gb541) := ⟨h13_⟩
           have NB526_541 : Aside0 (gb526 ≠ gb541) := ⟨h14_⟩
           have NB541_526 : Aside0 (gb541 ≠ gb526) := ⟨h15_⟩
           have NB527_541 : Aside0 (gb527 ≠ gb541) := ⟨h16_⟩
           have NB541_527 : Aside0 (gb541 ≠ gb527) := ⟨h17_⟩
           replace HB : Aside0 (Below w.heap.size w w20) := ⟨h18_⟩
           clear h0_ h1_ h2_ h3_ h4_ h5_ h6_ h7_ h8_ h9_ h10_ h11_ h12_ h13_ h14_ h15_ h16_ h17_ h18_
           have hHeld := hS0_ _ BK526.out HB.out
           refine norm_ (a' := ?_) ?_ ?_
           rotate_left
           ·simp only [putAll, Act.put, List.setIfInBounds_toArray, List.set_cons_zero, List.set_cons_succ]
            rfl
           refine one_ (i := 4) (N := some 19) #[true, true, true, true, true, true, true, true, true, false, true, true, false, false] rfl rfl (one_of HT_.out (by kernel_rfl)) (by decide) (fun K hK => ?_)
           refine goes_ Try.func78 (by kernel_rfl) rfl #[.agg #[.int .i64 ((rd_T32 l0_2 0).f0), .int .i64 ((rd_T32 l0_2 0).f1), .slice A528_2 ((rd_T32 l0_2 0).f2).length c528_2]] (by rfl) rfl rfl ab1_ ?_
           with_reducible refine (ih k (by omega) ((rd_T32 l0_2 0).f0) ((rd_T32 l0_2 0).f1) _ _ ((rd_T32 l0_2 0).f2) t529 t530 t531 _ (aC_ (Kd.C_below HR528_2.out HB.out)) HC528_2.out A9.out).mono ?_
           rintro e w21 ⟨v532, rfl, ho0, hb⟩
           refine ⟨_, rfl, ?_⟩
           have HO533 := am (Kd.N_lower (Kd.N_mono (ok' := fun k_ => (w.heap.size ≤ k_) ∧ k_ ≠ gb526 ∧ k_ ≠ gb527 ∧ k_ ≠ gb540 ∧ k_ ≠ gb541) ho0 (fun k_ hk_ => ⟨(Nat.le_trans (below_size ab8_) hk_), (frb_ BK526.out k_ hk_), (frb_ BK527.out k_ hk_), (frb_ BK540.out k_ hk_), (frb_ BK541.out k_ hk_)⟩)) (below_size ab8_))
           replace BK526 := am (bbl_ BK526.out hb)
           replace BK527 := am (bbl_ BK527.out hb)
           replace BK540 := am (bbl_ BK540.out hb)
           replace BK541 := am (bbl_ BK541.out hb)
           replace HB := am (below_step ab8_ hb)
           (try clear hb)
           (try clear hb2)
           (try clear hk)
           (try clear hi)
           (try clear ho0)
           refine hK.out _ _ (hS0_ _ BK526.out HB.out) (fun hHeld => ?_)
           clear hK K
           refine norm_ (a' := ?_) ?_ ?_
           rotate_left
           ·show Act.put _ (some 19) _ = _
            simp only [Act.put, List.setIfInBounds_toArray, List.set_cons_zero, List.set_cons_succ, i64_w, i32_w]
            rfl
           exact norm_ nm_ (hJ4_10_11 (v532, gb540, gb541) _ ⟨hHeld, (aN_ HO533.out), (aG_ BK526.out), (aG_ BK527.out), (aG_ BK540.out), (aG_ BK541.out), GW540.out, GE540.out, NB526_540.out, NB540_526.out, NB527_540.out, NB540_527.out, NB541_540.out, NB540_541.out, GW541.out, GE541.out, NB526_541.out, NB541_526.out, NB527_541.out, NB541_527.out, ab8_⟩)
         ·skip
          rintro ⟨v532, gb541⟩ w20 ⟨hS_, h0_, h1_, h2_, h3_, h4_, h5_, h6_, h7_, h8_, h9_, h10_⟩
          have HO533 : Aside0 (Kd.N k32 32 w20 w.heap.size (fun k_ => (w.heap.size ≤ k_) ∧ k_ ≠ gb526 ∧ k_ ≠ gb527 ∧ k_ ≠ gb541) v532 t531) := ⟨h0_⟩
          replace BK526 : Aside0 (w20.heap[gb526]? = some (.cells #[.int .i64 a0_0, .int .i64 a0_1, .slice (some ad528) l0_2.length c0_2] 32 (0, 0))) := ⟨h1_⟩
          replace BK527 : Aside0 (w20.heap[gb527]? = some (.cells #[.int .i64 0, .int .i64 0, .slice none 0 0] 32 (0, 0))) := ⟨h2_⟩
          have BK541 : Aside0 (w20.heap[gb541]? = some (.cells #[.int .i64 0, .int .i64 0, .slice none 0 0] 32 (0, 0))) := ⟨h3_⟩
          have GW541 : Aside0 (w.heap.size ≤ gb541) := ⟨h4_⟩
          have GE541 : Aside0 (w.heap.size ≤ gb541) := ⟨h5_⟩
          have NB526_541 : Aside0 (gb526 ≠ gb541) := ⟨h6_⟩
          have NB541_526 : Aside0 (gb541 ≠ gb526) := ⟨h7_⟩
          have NB527_541 : Aside0 (gb527 ≠ gb541) := ⟨h8_⟩
          have NB541_527 : Aside0 (gb541 ≠ gb527) := ⟨h9_⟩
          replace HB : Aside0 (Below w.heap.size w w20) := ⟨h10_⟩
          clear h0_ h1_ h2_ h3_ h4_ h5_ h6_ h7_ h8_ h9_ h10_
          have hHeld := hS0_ _ BK526.out HB.out
          refine norm_ (a' := ?_) ?_ ?_
          rotate_left
          ·simp only [putAll, Act.put, List.setIfInBounds_toArray, List.set_cons_zero, List.set_cons_succ]
           rfl
          refine two_ (i := 9) (j := 10) (Ni := some 24) (Nj := some 3) #[true, true, true, true, true, true, true, true, true, true, false, true, false, false] #[true, true, true, true, true, true, true, true, true, false, true, true, false, false] rfl rfl rfl rfl (two_of HT_.out (by kernel_rfl)) (by decide) (by decide) (fun K hK => ?_) (fun K hK => ?_)
          ·skip
           refine goes_ Try.func78 (by kernel_rfl) rfl #[.agg #[.int .i64 ((rd_T32 l0_2 1).f0), .int .i64 ((rd_T32 l0_2 1).f1), .slice A534_2 ((rd_T32 l0_2 1).f2).length c534_2]] (by rfl) rfl rfl ab1_ ?_
           with_reducible refine (ih k (by omega) ((rd_T32 l0_2 1).f0) ((rd_T32 l0_2 1).f1) _ _ ((rd_T32 l0_2 1).f2) t535 t536 t537 _ (aC_ (Kd.C_below HR534_2.out HB.out)) HC534_2.out A11.out).mono ?_
           rintro e w21 ⟨v538, rfl, ho0, hb⟩
           refine ⟨_, rfl, ?_⟩
           have HO539 := am (Kd.N_lower (Kd.N_mono (ok' := fun k_ => (w.heap.size ≤ k_) ∧ some k_ ≠ (v532 : Value).ownBlock ∧ k_ ≠ gb526 ∧ k_ ≠ gb527 ∧ k_ ≠ gb541) ho0 (fun k_ hk_ => ⟨(Nat.le_trans (below_size ab17_) hk_), (Kd.fresh' (Kd.N_lt (aN_ HO533.out)) k_ hk_), (frb_ BK526.out k_ hk_), (frb_ BK527.out k_ hk_), (frb_ BK541.out k_ hk_)⟩)) (below_size ab17_))
           replace HO533 := am (Kd.N_elder' (aN_ HO533.out) (by first | exact Kd.N_base ho0 | exact Kd.N_base (Kd.R_N ho0)) hb)
           replace BK526 := am (bbl_ BK526.out hb)
           replace BK527 := am (bbl_ BK527.out hb)
           replace BK541 := am (bbl_ BK541.out hb)
           replace HB := am (below_step ab17_ hb)
           (try clear hb)
           (try clear hb2)
           (try clear hk)
           (try clear hi)
           (try clear ho0)
           refine hK.out _ _ (hS0_ _ BK526.out HB.out) (fun hHeld => ?_)
           clear hK K
           refine norm_ (a' := ?_) ?_ ?_
           rotate_left
           ·show Act.put _ (some 24) _ = _
            simp only [Act.put, List.setIfInBounds_toArray, List.set_cons_zero, List.set_cons_succ, i64_w, i32_w]
            rfl
           exact norm_ nm_ (hJ4_9_11 (v532, v538, gb541) _ ⟨hHeld, (by (with_reducible repeat (first | apply Kd.N_alloc | apply Kd.N_drewN | apply Kd.N_drew)); exact Kd.N_mono HO533.out (fun _ hk => ⟨hk.1.1, ⟨hk.2, ⟨hk.1.2.1, ⟨hk.1.2.2.1, hk.1.2.2.2⟩⟩⟩⟩)), (aN_ HO539.out), (aG_ BK526.out), (aG_ BK527.out), (aG_ BK541.out), GW541.out, GE541.out, NB526_541.out, NB541_526.out, NB527_541.out, NB541_527.out, ab17_⟩)
          ·skip
           refine box_step ?hg (N := 3) ?hd (cs := #[.int .i64 0, .int .i64 0, .slice none 0 0]) (t := 32) ?hr ?_; (case hd => rfl); (case hg => rfl); (case hr => first | (go_simp; done) | (go_simp; rfl))
           intro gb540 hg w21 hbox hb
           replace HO533 := am (Kd.N_below (Kd.N_elderB (aN_ HO533.out) gb540 (Nat.le_of_eq hg.symm)) hb)
           have BK540 := am (hbox)
           have GW540 := am ((by rw [hg]; exact (below_size ab17_) : w.heap.size ≤ gb540))
           have GE540 := am ((by rw [hg]; exact (below_size ab17_) : w.heap.size ≤ gb540))
           replace HB := am (below_step ab17_ hb)
           have NB526_540 := am ((by rw [hg]; exact Nat.ne_of_lt (blt_ BK526.out) : gb526 ≠ gb540))
           have NB540_526 := am ((by rw [hg]; exact Nat.ne_of_gt (blt_ BK526.out) : gb540 ≠ gb526))
           replace BK526 := am (bbl_ BK526.out hb)
           have NB527_540 := am ((by rw [hg]; exact Nat.ne_of_lt (blt_ BK527.out) : gb527 ≠ gb540))
           have NB540_527 := am ((by rw [hg]; exact Nat.ne_of_gt (blt_ BK527.out) : gb540 ≠ gb527))
           replace BK527 := am (bbl_ BK527.out hb)
           have NB541_540 := am ((by rw [hg]; exact Nat.ne_of_lt (blt_ BK541.out) : gb541 ≠ gb540))
           have NB540_541 := am ((by rw [hg]; exact Nat.ne_of_gt (blt_ BK541.out) : gb540 ≠ gb541))
           replace BK541 := am (bbl_ BK541.out hb)
           clear hb hbox hg
           refine hK.out _ _ (hS0_ _ BK526.out HB.out) (fun hHeld => ?_)
           clear hK K
           refine norm_ (a' := ?_) ?_ ?_
           rotate_left
           ·show Act.put _ (some 3) _ = _
            simp only [Act.put, List.setIfInBounds_toArray, List.set_cons_zero, List.set_cons_succ, i64_w, i32_w]
            rfl
           exact norm_ nm_ (hJ4_10_11 (v532, gb540, gb541) _ ⟨hHeld, (by (with_reducible repeat (first | apply Kd.N_alloc | apply Kd.N_drewN | apply Kd.N_drew)); exact Kd.N_mono HO533.out (fun _ hk => ⟨hk.1.1, ⟨hk.1.2.1, ⟨hk.1.2.2.1, ⟨hk.2, hk.1.2.2.2⟩⟩⟩⟩)), (aG_ BK526.out), (aG_ BK527.out), (aG_ BK540.out), (aG_ BK541.out), GW540.out, GE540.out, NB526_540.out, NB540_526.out, NB527_540.out, NB540_527.out, NB541_540.out, NB540_541.out, GW541.out, GE541.out, NB526_541.out, NB541_526.out, NB527_541.out, NB541_527.out, ab59_⟩)
        ·skip
         rintro ⟨v532, gb540⟩ w20 ⟨hS_, h0_, h1_, h2_, h3_, h4_, h5_, h6_, h7_, h8_, h9_, h10_⟩
         have HO533 : Aside0 (Kd.N k32 32 w20 w.heap.size (fun k_ => (w.heap.size ≤ k_) ∧ k_ ≠ gb526 ∧ k_ ≠ gb527 ∧ k_ ≠ gb540) v532 t531) := ⟨h0_⟩
         replace BK526 : Aside0 (w20.heap[gb526]? = some (.cells #[.int .i64 a0_0, .int .i64 a0_1, .slice (some ad528) l0_2.length c0_2] 32 (0, 0))) := ⟨h1_⟩
         replace BK527 : Aside0 (w20.heap[gb527]? = some (.cells #[.int .i64 0, .int .i64 0, .slice none 0 0] 32 (0, 0))) := ⟨h2_⟩
         have BK540 : Aside0 (w20.heap[gb540]? = some (.cells #[.int .i64 0, .int .i64 0, .slice none 0 0] 32 (0, 0))) := ⟨h3_⟩
         have GW540 : Aside0 (w.heap.size ≤ gb540) := ⟨h4_⟩
         have GE540 : Aside0 (w.heap.size ≤ gb540) := ⟨h5_⟩
         have NB526_540 : Aside0 (gb526 ≠ gb540) := ⟨h6_⟩
         have NB540_526 : Aside0 (gb540 ≠ gb526) := ⟨h7_⟩
         have NB527_540 : Aside0 (gb527 ≠ gb540) := ⟨h8_⟩
         have NB540_527 : Aside0 (gb540 ≠ gb527) := ⟨h9_⟩
         replace HB : Aside0 (Below w.heap.size w w20) := ⟨h10_⟩
         clear h0_ h1_ h2_ h3_ h4_ h5_ h6_ h7_ h8_ h9_ h10_
         have hHeld := hS0_ _ BK526.out HB.out
         refine norm_ (a' := ?_) ?_ ?_
         rotate_left
         ·simp only [putAll, Act.put, List.setIfInBounds_toArray, List.set_cons_zero, List.set_cons_succ]
          rfl
         refine two_ (i := 9) (j := 11) (Ni := some 24) (Nj := some 4) #[true, true, true, true, true, true, true, true, true, true, true, false, false, false] #[true, true, true, true, true, true, true, true, true, false, true, true, false, false] rfl rfl rfl rfl (two_of HT_.out (by kernel_rfl)) (by decide) (by decide) (fun K hK => ?_) (fun K hK => ?_)
         ·skip
          refine goes_ Try.func78 (by kernel_rfl) rfl #[.agg #[.int .i64 ((rd_T32 l0_2 1).f0), .int .i64 ((rd_T32 l0_2 1).f1), .slice A534_2 ((rd_T32 l0_2 1).f2).length c534_2]] (by rfl) rfl rfl ab1_ ?_
          with_reducible refine (ih k (by omega) ((rd_T32 l0_2 1).f0) ((rd_T32 l0_2 1).f1) _ _ ((rd_T32 l0_2 1).f2) t535 t536 t537 _ (aC_ (Kd.C_below HR534_2.out HB.out)) HC534_2.out A11.out).mono ?_
          rintro e w21 ⟨v538, rfl, ho0, hb⟩
          refine ⟨_, rfl, ?_⟩
          have HO539 := am (Kd.N_lower (Kd.N_mono (ok' := fun k_ => (w.heap.size ≤ k_) ∧ some k_ ≠ (v532 : Value).ownBlock ∧ k_ ≠ gb526 ∧ k_ ≠ gb527 ∧ k_ ≠ gb540) ho0 (fun k_ hk_ => ⟨(Nat.le_trans (below_size ab16_) hk_), (Kd.fresh' (Kd.N_lt (aN_ HO533.out)) k_ hk_), (frb_ BK526.out k_ hk_), (frb_ BK527.out k_ hk_), (frb_ BK540.out k_ hk_)⟩)) (below_size ab16_))
          replace HO533 := am (Kd.N_elder' (aN_ HO533.out) (by first | exact Kd.N_base ho0 | exact Kd.N_base (Kd.R_N ho0)) hb)
          replace BK526 := am (bbl_ BK526.out hb)
          replace BK527 := am (bbl_ BK527.out hb)
          replace BK540 := am (bbl_ BK540.out hb)
          replace HB := am (below_step ab16_ hb)
          (try clear hb)
          (try clear hb2)
          (try clear hk)
          (try clear hi)
          (try clear ho0)
          refine hK.out _ _ (hS0_ _ BK526.out HB.out) (fun hHeld => ?_)
          clear hK K
          refine norm_ (a' := ?_) ?_ ?_
          rotate_left
          ·show Act.put _ (some 24) _ = _
           simp only [Act.put, List.setIfInBounds_toArray, List.set_cons_zero, List.set_cons_succ, i64_w, i32_w]
           rfl
          exact norm_ nm_ (hJ4_9_10 (v532, v538, gb540) _ ⟨hHeld, (by (with_reducible repeat (first | apply Kd.N_alloc | apply Kd.N_drewN | apply Kd.N_drew)); exact Kd.N_mono HO533.out (fun _ hk => ⟨hk.1.1, ⟨hk.2, ⟨hk.1.2.1, ⟨hk.1.2.2.1, hk.1.2.2.2⟩⟩⟩⟩)), (aN_ HO539.out), (aG_ BK526.out), (aG_ BK527.out), (aG_ BK540.out), GW540.out, GE540.out, NB526_540.out, NB540_526.out, NB527_540.out, NB540_527.out, ab16_⟩)
         ·skip
          refine box_step ?hg (N := 4) ?hd (cs := #[.int .i64 0, .int .i64 0, .slice none 0 0]) (t := 32) ?hr ?_; (case hd => rfl); (case hg => rfl); (case hr => first | (go_simp; done) | (go_simp; rfl))
          intro gb541 hg w21 hbox hb
          replace HO533 := am (Kd.N_below (Kd.N_elderB (aN_ HO533.out) gb541 (Nat.le_of_eq hg.symm)) hb)
          have BK541 := am (hbox)
          have GW541 := am ((by rw [hg]; exact (below_size ab16_) : w.heap.size ≤ gb541))
          have GE541 := am ((by rw [hg]; exact (below_size ab16_) : w.heap.size ≤ gb541))
          replace HB := am (below_step ab16_ hb)
          have NB526_541 := am ((by rw [hg]; exact Nat.ne_of_lt (blt_ BK526.out) : gb526 ≠ gb541))
          have NB541_526 := am ((by rw [hg]; exact Nat.ne_of_gt (blt_ BK526.out) : gb541 ≠ gb526))
          replace BK526 := am (bbl_ BK526.out hb)
          have NB527_541 := am ((by rw [hg]; exact Nat.ne_of_lt (blt_ BK527.out) : gb527 ≠ gb541))
          have NB541_527 := am ((by rw [hg]; exact Nat.ne_of_gt (blt_ BK527.out) : gb541 ≠ gb527))
          replace BK527 := am (bbl_ BK527.out hb)
          have NB540_541 := am ((by rw [hg]; exact Nat.ne_of_lt (blt_ BK540.out) : gb540 ≠ gb541))
          have NB541_540 := am ((by rw [hg]; exact Nat.ne_of_gt (blt_ BK540.out) : gb541 ≠ gb540))
          replace BK540 := am (bbl_ BK540.out hb)
          clear hb hbox hg
          refine hK.out _ _ (hS0_ _ BK526.out HB.out) (fun hHeld => ?_)
          clear hK K
          refine norm_ (a' := ?_) ?_ ?_
          rotate_left
          ·show Act.put _ (some 4) _ = _
           simp only [Act.put, List.setIfInBounds_toArray, List.set_cons_zero, List.set_cons_succ, i64_w, i32_w]
           rfl
          exact norm_ nm_ (hJ4_10_11 (v532, gb540, gb541) _ ⟨hHeld, (by (with_reducible repeat (first | apply Kd.N_alloc | apply Kd.N_drewN | apply Kd.N_drew)); exact Kd.N_mono HO533.out (fun _ hk => ⟨hk.1.1, ⟨hk.1.2.1, ⟨hk.1.2.2.1, ⟨hk.1.2.2.2, hk.2⟩⟩⟩⟩)), (aG_ BK526.out), (aG_ BK527.out), (aG_ BK540.out), (aG_ BK541.out), GW540.out, GE540.out, NB526_540.out, NB540_526.out, NB527_540.out, NB540_527.out, NB541_540.out, NB540_541.out, GW541.out, GE541.out, NB526_541.out, NB541_526.out, NB527_541.out, NB541_527.out, ab8_⟩)
       ·skip
        rintro ⟨v532, v538⟩ w20 ⟨hS_, h0_, h1_, h2_, h3_, h4_⟩
        have HO533 : Aside0 (Kd.N k32 32 w20 w.heap.size (fun k_ => (w.heap.size ≤ k_) ∧ some k_ ≠ (v538 : Value).ownBlock ∧ k_ ≠ gb526 ∧ k_ ≠ gb527) v532 t531) := ⟨h0_⟩
        have HO539 : Aside0 (Kd.N k32 32 w20 w.heap.size (fun k_ => (w.heap.size ≤ k_) ∧ some k_ ≠ (v532 : Value).ownBlock ∧ k_ ≠ gb526 ∧ k_ ≠ gb527) v538 t537) := ⟨h1_⟩
        replace BK526 : Aside0 (w20.heap[gb526]? = some (.cells #[.int .i64 a0_0, .int .i64 a0_1, .slice (some ad528) l0_2.length c0_2] 32 (0, 0))) := ⟨h2_⟩
        replace BK527 : Aside0 (w20.heap[gb527]? = some (.cells #[.int .i64 0, .int .i64 0, .slice none 0 0] 32 (0, 0))) := ⟨h3_⟩
        replace HB : Aside0 (Below w.heap.size w w20) := ⟨h4_⟩
        clear h0_ h1_ h2_ h3_ h4_
        have hHeld := hS0_ _ BK526.out HB.out
        refine norm_ (a' := ?_) ?_ ?_
        rotate_left
        ·simp only [putAll, Act.put, List.setIfInBounds_toArray, List.set_cons_zero, List.set_cons_succ]
         rfl
        refine two_ (i := 10) (j := 11) (Ni := some 3) (Nj := some 4) #[true, true, true, true, true, true, true, true, true, true, true, false, false, false] #[true, true, true, true, true, true, true, true, true, true, false, true, false, false] rfl rfl rfl rfl (two_of HT_.out (by kernel_rfl)) (by decide) (by decide) (fun K hK => ?_) (fun K hK => ?_)
        ·skip
         refine box_step ?hg (N := 3) ?hd (cs := #[.int .i64 0, .int .i64 0, .slice none 0 0]) (t := 32) ?hr ?_; (case hd => rfl); (case hg => rfl); (case hr => first | (go_simp; done) | (go_simp; rfl))
         intro gb540 hg w21 hbox hb
         replace HO533 := am (Kd.N_below (Kd.N_elderB (aN_ HO533.out) gb540 (Nat.le_of_eq hg.symm)) hb)
         replace HO539 := am (Kd.N_below (Kd.N_elderB (aN_ HO539.out) gb540 (Nat.le_of_eq hg.symm)) hb)
         have BK540 := am (hbox)
         have GW540 := am ((by rw [hg]; exact (below_size ab12_) : w.heap.size ≤ gb540))
         have GE540 := am ((by rw [hg]; exact (below_size ab12_) : w.heap.size ≤ gb540))
         replace HB := am (below_step ab12_ hb)
         have NB526_540 := am ((by rw [hg]; exact Nat.ne_of_lt (blt_ BK526.out) : gb526 ≠ gb540))
         have NB540_526 := am ((by rw [hg]; exact Nat.ne_of_gt (blt_ BK526.out) : gb540 ≠ gb526))
         replace BK526 := am (bbl_ BK526.out hb)
         have NB527_540 := am ((by rw [hg]; exact Nat.ne_of_lt (blt_ BK527.out) : gb527 ≠ gb540))
         have NB540_527 := am ((by rw [hg]; exact Nat.ne_of_gt (blt_ BK527.out) : gb540 ≠ gb527))
         replace BK527 := am (bbl_ BK527.out hb)
         clear hb hbox hg
         refine hK.out _ _ (hS0_ _ BK526.out HB.out) (fun hHeld => ?_)
         clear hK K
         refine norm_ (a' := ?_) ?_ ?_
         rotate_left
         ·show Act.put _ (some 3) _ = _
          simp only [Act.put, List.setIfInBounds_toArray, List.set_cons_zero, List.set_cons_succ, i64_w, i32_w]
          rfl
         exact norm_ nm_ (hJ4_9_10 (v532, v538, gb540) _ ⟨hHeld, (by (with_reducible repeat (first | apply Kd.N_alloc | apply Kd.N_drewN | apply Kd.N_drew)); exact Kd.N_mono HO533.out (fun _ hk => ⟨hk.1.1, ⟨hk.1.2.1, ⟨hk.1.2.2.1, ⟨hk.1.2.2.2, hk.2⟩⟩⟩⟩)), (by (with_reducible repeat (first | apply Kd.N_alloc | apply Kd.N_drewN | apply Kd.N_drew)); exact Kd.N_mono HO539.out (fun _ hk => ⟨hk.1.1, ⟨hk.1.2.1, ⟨hk.1.2.2.1, ⟨hk.1.2.2.2, hk.2⟩⟩⟩⟩)), (aG_ BK526.out), (aG_ BK527.out), (aG_ BK540.out), GW540.out, GE540.out, NB526_540.out, NB540_526.out, NB527_540.out, NB540_527.out, ab16_⟩)
        ·skip
         refine box_step ?hg (N := 4) ?hd (cs := #[.int .i64 0, .int .i64 0, .slice none 0 0]) (t := 32) ?hr ?_; (case hd => rfl); (case hg => rfl); (case hr => first | (go_simp; done) | (go_simp; rfl))
         intro gb541 hg w21 hbox hb
         replace HO533 := am (Kd.N_below (Kd.N_elderB (aN_ HO533.out) gb541 (Nat.le_of_eq hg.symm)) hb)
         replace HO539 := am (Kd.N_below (Kd.N_elderB (aN_ HO539.out) gb541 (Nat.le_of_eq hg.symm)) hb)
         have BK541 := am (hbox)
         have GW541 := am ((by rw [hg]; exact (below_size ab12_) : w.heap.size ≤ gb541))
         have GE541 := am ((by rw [hg]; exact (below_size ab12_) : w.heap.size ≤ gb541))
         replace HB := am (below_step ab12_ hb)
         have NB526_541 := am ((by rw [hg]; exact Nat.ne_of_lt (blt_ BK526.out) : gb526 ≠ gb541))
         have NB541_526 := am ((by rw [hg]; exact Nat.ne_of_gt (blt_ BK526.out) : gb541 ≠ gb526))
         replace BK526 := am (bbl_ BK526.out hb)
         have NB527_541 := am ((by rw [hg]; exact Nat.ne_of_lt (blt_ BK527.out) : gb527 ≠ gb541))
         have NB541_527 := am ((by rw [hg]; exact Nat.ne_of_gt (blt_ BK527.out) : gb541 ≠ gb527))
         replace BK527 := am (bbl_ BK527.out hb)
         clear hb hbox hg
         refine hK.out _ _ (hS0_ _ BK526.out HB.out) (fun hHeld => ?_)
         clear hK K
         refine norm_ (a' := ?_) ?_ ?_
         rotate_left
         ·show Act.put _ (some 4) _ = _
          simp only [Act.put, List.setIfInBounds_toArray, List.set_cons_zero, List.set_cons_succ, i64_w, i32_w]
          rfl
         exact norm_ nm_ (hJ4_9_11 (v532, v538, gb541) _ ⟨hHeld, (by (with_reducible repeat (first | apply Kd.N_alloc | apply Kd.N_drewN | apply Kd.N_drew)); exact Kd.N_mono HO533.out (fun _ hk => ⟨hk.1.1, ⟨hk.1.2.1, ⟨hk.1.2.2.1, ⟨hk.1.2.2.2, hk.2⟩⟩⟩⟩)), (by (with_reducible repeat (first | apply Kd.N_alloc | apply Kd.N_drewN | apply Kd.N_drew)); exact Kd.N_mono HO539.out (fun _ hk => ⟨hk.1.1, ⟨hk.1.2.1, ⟨hk.1.2.2.1, ⟨hk.1.2.2.2, hk.2⟩⟩⟩⟩)), (aG_ BK526.out), (aG_ BK527.out), (aG_ BK541.out), GW541.out, GE541.out, NB526_541.out, NB541_526.out, NB527_541.out, NB541_527.out, ab17_⟩)
      ·skip
       rintro ⟨v532, gb540, gb541⟩ w21 ⟨hS_, h0_, h1_, h2_, h3_, h4_, h5_, h6_, h7_, h8_, h9_, h10_, h11_, h12_, h13_, h14_, h15_, h16_, h17_, h18_, h19_⟩
       have HO533 : Aside0 (Kd.N k32 32 w21 w.heap.size (fun k_ => (w.heap.size ≤ k_) ∧ k_ ≠ gb526 ∧ k_ ≠ gb527 ∧ k_ ≠ gb540 ∧ k_ ≠ gb541) v532 t531) := ⟨h0_⟩
       replace BK526 : Aside0 (w21.heap[gb526]? = some (.cells #[.int .i64 a0_0, .int .i64 a0_1, .slice (some ad528) l0_2.length c0_2] 32 (0, 0))) := ⟨h1_⟩
       replace BK527 : Aside0 (w21.heap[gb527]? = some (.cells #[.int .i64 0, .int .i64 0, .slice none 0 0] 32 (0, 0))) := ⟨h2_⟩
       have BK540 : Aside0 (w21.heap[gb540]? = some (.cells #[.int .i64 0, .int .i64 0, .slice none 0 0] 32 (0, 0))) := ⟨h3_⟩
       have BK541 : Aside0 (w21.heap[gb541]? = some (.cells #[.int .i64 0, .int .i64 0, .slice none 0 0] 32 (0, 0))) := ⟨h4_⟩
       have GW540 : Aside0 (w.heap.size ≤ gb540) := ⟨h5_⟩
       have GE540 : Aside0 (w.heap.size ≤ gb540) := ⟨h6_⟩
       have NB526_540 : Aside0 (gb526 ≠ gb540) := ⟨h7_⟩
       have NB540_526 : Aside0 (gb540 ≠ gb526) := ⟨h8_⟩
       have NB527_540 : Aside0 (gb527 ≠ gb540) := ⟨h9_⟩
       have NB540_527 : Aside0 (gb540 ≠ gb527) := ⟨h10_⟩
       have NB541_540 : Aside0 (gb541 ≠ gb540) := ⟨h11_⟩
       have NB540_541 : Aside0 (gb540 ≠ gb541) := ⟨h12_⟩
       have GW541 : Aside0 (w.heap.size ≤ gb541) := ⟨h13_⟩
       have GE541 : Aside0 (w.heap.size ≤ gb541) := ⟨h14_⟩
       have NB526_541 : Aside0 (gb526 ≠ gb541) := ⟨h15_⟩
       have NB541_526 : Aside0 (gb541 ≠ gb526) := ⟨h16_⟩
       have NB527_541 : Aside0 (gb527 ≠ gb541) := ⟨h17_⟩
       have NB541_527 : Aside0 (gb541 ≠ gb527) := ⟨h18_⟩
       replace HB : Aside0 (Below w.heap.size w w21) := ⟨h19_⟩
       clear h0_ h1_ h2_ h3_ h4_ h5_ h6_ h7_ h8_ h9_ h10_ h11_ h12_ h13_ h14_ h15_ h16_ h17_ h18_ h19_
       have hHeld := hS0_ _ BK526.out HB.out
       refine norm_ (a' := ?_) ?_ ?_
       rotate_left
       ·simp only [putAll, Act.put, List.setIfInBounds_toArray, List.set_cons_zero, List.set_cons_succ]
        rfl
       refine one_ (i := 9) (N := some 24) #[true, true, true, true, true, true, true, true, true, true, true, true, false, false] rfl rfl (one_of HT_.out (by kernel_rfl)) (by decide) (fun K hK => ?_)
       refine goes_ Try.func78 (by kernel_rfl) rfl #[.agg #[.int .i64 ((rd_T32 l0_2 1).f0), .int .i64 ((rd_T32 l0_2 1).f1), .slice A534_2 ((rd_T32 l0_2 1).f2).length c534_2]] (by rfl) rfl rfl ab1_ ?_
       with_reducible refine (ih k (by omega) ((rd_T32 l0_2 1).f0) ((rd_T32 l0_2 1).f1) _ _ ((rd_T32 l0_2 1).f2) t535 t536 t537 _ (aC_ (Kd.C_below HR534_2.out HB.out)) HC534_2.out A11.out).mono ?_
       rintro e w22 ⟨v538, rfl, ho0, hb⟩
       refine ⟨_, rfl, ?_⟩
       have HO539 := am (Kd.N_lower (Kd.N_mono (ok' := fun k_ => (w.heap.size ≤ k_) ∧ some k_ ≠ (v532 : Value).ownBlock ∧ k_ ≠ gb526 ∧ k_ ≠ gb527 ∧ k_ ≠ gb540 ∧ k_ ≠ gb541) ho0 (fun k_ hk_ => ⟨(Nat.le_trans (below_size ab8_) hk_), (Kd.fresh' (Kd.N_lt (aN_ HO533.out)) k_ hk_), (frb_ BK526.out k_ hk_), (frb_ BK527.out k_ hk_), (frb_ BK540.out k_ hk_), (frb_ BK541.out k_ hk_)⟩)) (below_size ab8_))
       replace HO533 := am (Kd.N_elder' (aN_ HO533.out) (by first | exact Kd.N_base ho0 | exact Kd.N_base (Kd.R_N ho0)) hb)
       replace BK526 := am (bbl_ BK526.out hb)
       replace BK527 := am (bbl_ BK527.out hb)
       replace BK540 := am (bbl_ BK540.out hb)
       replace BK541 := am (bbl_ BK541.out hb)
       replace HB := am (below_step ab8_ hb)
       (try clear hb)
       (try clear hb2)
       (try clear hk)
       (try clear hi)
       (try clear ho0)
       refine hK.out _ _ (hS0_ _ BK526.out HB.out) (fun hHeld => ?_)
       clear hK K
       refine norm_ (a' := ?_) ?_ ?_
       rotate_left
       ·show Act.put _ (some 24) _ = _
        simp only [Act.put, List.setIfInBounds_toArray, List.set_cons_zero, List.set_cons_succ, i64_w, i32_w]
        rfl
       exact norm_ nm_ (hJ4_9_10_11 (v532, v538, gb540, gb541) _ ⟨hHeld, (by (with_reducible repeat (first | apply Kd.N_alloc | apply Kd.N_drewN | apply Kd.N_drew)); exact Kd.N_mono HO533.out (fun _ hk => ⟨hk.1.1, ⟨hk.2, ⟨hk.1.2.1, ⟨hk.1.2.2.1, ⟨hk.1.2.2.2.1, hk.1.2.2.2.2⟩⟩⟩⟩⟩)), (aN_ HO539.out), (aG_ BK526.out), (aG_ BK527.out), (aG_ BK540.out), (aG_ BK541.out), GW540.out, GE540.out, NB526_540.out, NB540_526.out, NB527_540.out, NB540_527.out, NB541_540.out, NB540_541.out, GW541.out, GE541.out, NB526_541.out, NB541_526.out, NB527_541.out, NB541_527.out, ab8_⟩)
     ·skip
      rintro ⟨v532, v538, gb541⟩ w21 ⟨hS_, h0_, h1_, h2_, h3_, h4_, h5_, h6_, h7_, h8_, h9_, h10_, h11_⟩
      have HO533 : Aside0 (Kd.N k32 32 w21 w.heap.size (fun k_ => (w.heap.size ≤ k_) ∧ some k_ ≠ (v538 : Value).ownBlock ∧ k_ ≠ gb526 ∧ k_ ≠ gb527 ∧ k_ ≠ gb541) v532 t531) := ⟨h0_⟩
      have HO539 : Aside0 (Kd.N k32 32 w21 w.heap.size (fun k_ => (w.heap.size ≤ k_) ∧ some k_ ≠ (v532 : Value).ownBlock ∧ k_ ≠ gb526 ∧ k_ ≠ gb527 ∧ k_ ≠ gb541) v538 t537) := ⟨h1_⟩
      replace BK526 : Aside0 (w21.heap[gb526]? = some (.cells #[.int .i64 a0_0, .int .i64 a0_1, .slice (some ad528) l0_2.length c0_2] 32 (0, 0))) := ⟨h2_⟩
      replace BK527 : Aside0 (w21.heap[gb527]? = some (.cells #[.int .i64 0, .int .i64 0, .slice none 0 0] 32 (0, 0))) := ⟨h3_⟩
      have BK541 : Aside0 (w21.heap[gb541]? = some (.cells #[.int .i64 0, .int .i64 0, .slice none 0 0] 32 (0, 0))) := ⟨h4_⟩
      have GW541 : Aside0 (w.heap.size ≤ gb541) := ⟨h5_⟩
      have GE541 : Aside0 (w.heap.size ≤ gb541) := ⟨h6_⟩
      have NB526_541 : Aside0 (gb526 ≠ gb541) := ⟨h7_⟩
      have NB541_526 : Aside0 (gb541 ≠ gb526) := ⟨h8_⟩
      have NB527_541 : Aside0 (gb527 ≠ gb541) := ⟨h9_⟩
      have NB541_527 : Aside0 (gb541 ≠ gb527) := ⟨h10_⟩
      replace HB : Aside0 (Below w.heap.size w w21) := ⟨h11_⟩
      clear h0_ h1_ h2_ h3_ h4_ h5_ h6_ h7_ h8_ h9_ h10_ h11_
      have hHeld := hS0_ _ BK526.out HB.out
      refine norm_ (a' := ?_) ?_ ?_
      rotate_left
      ·simp only [putAll, Act.put, List.setIfInBounds_toArray, List.set_cons_zero, List.set_cons_succ]
       rfl
      refine one_ (i := 10) (N := some 3) #[true, true, true, true, true, true, true, true, true, true, true, true, false, false] rfl rfl (one_of HT_.out (by kernel_rfl)) (by decide) (fun K hK => ?_)
      refine box_step ?hg (N := 3) ?hd (cs := #[.int .i64 0, .int .i64 0, .slice none 0 0]) (t := 32) ?hr ?_; (case hd => rfl); (case hg => rfl); (case hr => first | (go_simp; done) | (go_simp; rfl))
      intro gb540 hg w22 hbox hb
      replace HO533 := am (Kd.N_below (Kd.N_elderB (aN_ HO533.out) gb540 (Nat.le_of_eq hg.symm)) hb)
      replace HO539 := am (Kd.N_below (Kd.N_elderB (aN_ HO539.out) gb540 (Nat.le_of_eq hg.symm)) hb)
      have BK540 := am (hbox)
      have GW540 := am ((by rw [hg]; exact (below_size ab17_) : w.heap.size ≤ gb540))
      have GE540 := am ((by rw [hg]; exact (below_size ab17_) : w.heap.size ≤ gb540))
      replace HB := am (below_step ab17_ hb)
      have NB526_540 := am ((by rw [hg]; exact Nat.ne_of_lt (blt_ BK526.out) : gb526 ≠ gb540))
      have NB540_526 := am ((by rw [hg]; exact Nat.ne_of_gt (blt_ BK526.out) : gb540 ≠ gb526))
      replace BK526 := am (bbl_ BK526.out hb)
      have NB527_540 := am ((by rw [hg]; exact Nat.ne_of_lt (blt_ BK527.out) : gb527 ≠ gb540))
      have NB540_527 := am ((by rw [hg]; exact Nat.ne_of_gt (blt_ BK527.out) : gb540 ≠ gb527))
      replace BK527 := am (bbl_ BK527.out hb)
      have NB541_540 := am ((by rw [hg]; exact Nat.ne_of_lt (blt_ BK541.out) : gb541 ≠ gb540))
      have NB540_541 := am ((by rw [hg]; exact Nat.ne_of_gt (blt_ BK541.out) : gb540 ≠ gb541))
      replace BK541 := am (bbl_ BK541.out hb)
      clear hb hbox hg
      refine hK.out _ _ (hS0_ _ BK526.out HB.out) (fun hHeld => ?_)
      clear hK K
      refine norm_ (a' := ?_) ?_ ?_
      rotate_left
      ·show Act.put _ (some 3) _ = _
       simp only [Act.put, List.setIfInBounds_toArray, List.set_cons_zero, List.set_cons_succ, i64_w, i32_w]
       rfl
      exact norm_ nm_ (hJ4_9_10_11 (v532, v538, gb540, gb541) _ ⟨hHeld, (by (with_reducible repeat (first | apply Kd.N_alloc | apply Kd.N_drewN | apply Kd.N_drew)); exact Kd.N_mono HO533.out (fun _ hk => ⟨hk.1.1, ⟨hk.1.2.1, ⟨hk.1.2.2.1, ⟨hk.1.2.2.2.1, ⟨hk.2, hk.1.2.2.2.2⟩⟩⟩⟩⟩)), (by (with_reducible repeat (first | apply Kd.N_alloc | apply Kd.N_drewN | apply Kd.N_drew)); exact Kd.N_mono HO539.out (fun _ hk => ⟨hk.1.1, ⟨hk.1.2.1, ⟨hk.1.2.2.1, ⟨hk.1.2.2.2.1, ⟨hk.2, hk.1.2.2.2.2⟩⟩⟩⟩⟩)), (aG_ BK526.out), (aG_ BK527.out), (aG_ BK540.out), (aG_ BK541.out), GW540.out, GE540.out, NB526_540.out, NB540_526.out, NB527_540.out, NB540_527.out, NB541_540.out, NB540_541.out, GW541.out, GE541.out, NB526_541.out, NB541_526.out, NB527_541.out, NB541_527.out, ab59_⟩)
    ·skip
     rintro ⟨v532, v538, gb540⟩ w21 ⟨hS_, h0_, h1_, h2_, h3_, h4_, h5_, h6_, h7_, h8_, h9_, h10_, h11_⟩
     have HO533 : Aside0 (Kd.N k32 32 w21 w.heap.size (fun k_ => (w.heap.size ≤ k_) ∧ some k_ ≠ (v538 : Value).ownBlock ∧ k_ ≠ gb526 ∧ k_ ≠ gb527 ∧ k_ ≠ gb540) v532 t531) := ⟨h0_⟩
     have HO539 : Aside0 (Kd.N k32 32 w21 w.heap.size (fun k_ => (w.heap.size ≤ k_) ∧ some k_ ≠ (v532 : Value).ownBlock ∧ k_ ≠ gb526 ∧ k_ ≠ gb527 ∧ k_ ≠ gb540) v538 t537) := ⟨h1_⟩
     replace BK526 : Aside0 (w21.heap[gb526]? = some (.cells #[.int .i64 a0_0, .int .i64 a0_1, .slice (some ad528) l0_2.length c0_2] 32 (0, 0))) := ⟨h2_⟩
     replace BK527 : Aside0 (w21.heap[gb527]? = some (.cells #[.int .i64 0, .int .i64 0, .slice none 0 0] 32 (0, 0))) := ⟨h3_⟩
     have BK540 : Aside0 (w21.heap[gb540]? = some (.cells #[.int .i64 0, .int .i64 0, .slice none 0 0] 32 (0, 0))) := ⟨h4_⟩
     have GW540 : Aside0 (w.heap.size ≤ gb540) := ⟨h5_⟩
     have GE540 : Aside0 (w.heap.size ≤ gb540) := ⟨h6_⟩
     have NB526_540 : Aside0 (gb526 ≠ gb540) := ⟨h7_⟩
     have NB540_526 : Aside0 (gb540 ≠ gb526) := ⟨h8_⟩
     have NB527_540 : Aside0 (gb527 ≠ gb540) := ⟨h9_⟩
     have NB540_527 : Aside0 (gb540 ≠ gb527) := ⟨h10_⟩
     replace HB : Aside0 (Below w.heap.size w w21) := ⟨h11_⟩
     clear h0_ h1_ h2_ h3_ h4_ h5_ h6_ h7_ h8_ h9_ h10_ h11_
     have hHeld := hS0_ _ BK526.out HB.out
     refine norm_ (a' := ?_) ?_ ?_
     rotate_left
     ·simp only [putAll, Act.put, List.setIfInBounds_toArray, List.set_cons_zero, List.set_cons_succ]
      rfl
     refine one_ (i := 11) (N := some 4) #[true, true, true, true, true, true, true, true, true, true, true, true, false, false] rfl rfl (one_of HT_.out (by kernel_rfl)) (by decide) (fun K hK => ?_)
     refine box_step ?hg (N := 4) ?hd (cs := #[.int .i64 0, .int .i64 0, .slice none 0 0]) (t := 32) ?hr ?_; (case hd => rfl); (case hg => rfl); (case hr => first | (go_simp; done) | (go_simp; rfl))
     intro gb541 hg w22 hbox hb
     replace HO533 := am (Kd.N_below (Kd.N_elderB (aN_ HO533.out) gb541 (Nat.le_of_eq hg.symm)) hb)
     replace HO539 := am (Kd.N_below (Kd.N_elderB (aN_ HO539.out) gb541 (Nat.le_of_eq hg.symm)) hb)
     have BK541 := am (hbox)
     have GW541 := am ((by rw [hg]; exact (below_size ab16_) : w.heap.size ≤ gb541))
     have GE541 := am ((by rw [hg]; exact (below_size ab16_) : w.heap.size ≤ gb541))
     replace HB := am (below_step ab16_ hb)
     have NB526_541 := am ((by rw [hg]; exact Nat.ne_of_lt (blt_ BK526.out) : gb526 ≠ gb541))
     have NB541_526 := am ((by rw [hg]; exact Nat.ne_of_gt (blt_ BK526.out) : gb541 ≠ gb526))
     replace BK526 := am (bbl_ BK526.out hb)
     have NB527_541 := am ((by rw [hg]; exact Nat.ne_of_lt (blt_ BK527.out) : gb527 ≠ gb541))
     have NB541_527 := am ((by rw [hg]; exact Nat.ne_of_gt (blt_ BK527.out) : gb541 ≠ gb527))
     replace BK527 := am (bbl_ BK527.out hb)
     have NB540_541 := am ((by rw [hg]; exact Nat.ne_of_lt (blt_ BK540.out) : gb540 ≠ gb541))
     have NB541_540 := am ((by rw [hg]; exact Nat.ne_of_gt (blt_ BK540.out) : gb541 ≠ gb540))
     replace BK540 := am (bbl_ BK540.out hb)
     clear hb hbox hg
     refine hK.out _ _ (hS0_ _ BK526.out HB.out) (fun hHeld => ?_)
     clear hK K
     refine norm_ (a' := ?_) ?_ ?_
     rotate_left
     ·show Act.put _ (some 4) _ = _
      simp only [Act.put, List.setIfInBounds_toArray, List.set_cons_zero, List.set_cons_succ, i64_w, i32_w]
      rfl
     exact norm_ nm_ (hJ4_9_10_11 (v532, v538, gb540, gb541) _ ⟨hHeld, (by (with_reducible repeat (first | apply Kd.N_alloc | apply Kd.N_drewN | apply Kd.N_drew)); exact Kd.N_mono HO533.out (fun _ hk => ⟨hk.1.1, ⟨hk.1.2.1, ⟨hk.1.2.2.1, ⟨hk.1.2.2.2.1, ⟨hk.1.2.2.2.2, hk.2⟩⟩⟩⟩⟩)), (by (with_reducible repeat (first | apply Kd.N_alloc | apply Kd.N_drewN | apply Kd.N_drew)); exact Kd.N_mono HO539.out (fun _ hk => ⟨hk.1.1, ⟨hk.1.2.1, ⟨hk.1.2.2.1, ⟨hk.1.2.2.2.1, ⟨hk.1.2.2.2.2, hk.2⟩⟩⟩⟩⟩)), (aG_ BK526.out), (aG_ BK527.out), (aG_ BK540.out), (aG_ BK541.out), GW540.out, GE540.out, NB526_540.out, NB540_526.out, NB527_540.out, NB540_527.out, NB541_540.out, NB540_541.out, GW541.out, GE541.out, NB526_541.out, NB541_526.out, NB527_541.out, NB541_527.out, ab8_⟩)
   rintro ⟨v532, v538, gb540, gb541⟩ w22 ⟨hS_, h0_, h1_, h2_, h3_, h4_, h5_, h6_, h7_, h8_, h9_, h10_, h11_, h12_, h13_, h14_, h15_, h16_, h17_, h18_, h19_, h20_⟩
   have HO533 : Aside0 (Kd.N k32 32 w22 w.heap.size (fun k_ => (w.heap.size ≤ k_) ∧ some k_ ≠ (v538 : Value).ownBlock ∧ k_ ≠ gb526 ∧ k_ ≠ gb527 ∧ k_ ≠ gb540 ∧ k_ ≠ gb541) v532 t531) := ⟨h0_⟩
   have HO539 : Aside0 (Kd.N k32 32 w22 w.heap.size (fun k_ => (w.heap.size ≤ k_) ∧ some k_ ≠ (v532 : Value).ownBlock ∧ k_ ≠ gb526 ∧ k_ ≠ gb527 ∧ k_ ≠ gb540 ∧ k_ ≠ gb541) v538 t537) := ⟨h1_⟩
   replace BK526 : Aside0 (w22.heap[gb526]? = some (.cells #[.int .i64 a0_0, .int .i64 a0_1, .slice (some ad528) l0_2.length c0_2] 32 (0, 0))) := ⟨h2_⟩
   replace BK527 : Aside0 (w22.heap[gb527]? = some (.cells #[.int .i64 0, .int .i64 0, .slice none 0 0] 32 (0, 0))) := ⟨h3_⟩
   have BK540 : Aside0 (w22.heap[gb540]? = some (.cells #[.int .i64 0, .int .i64 0, .slice none 0 0] 32 (0, 0))) := ⟨h4_⟩
   have BK541 : Aside0 (w22.heap[gb541]? = some (.cells #[.int .i64 0, .int .i64 0, .slice none 0 0] 32 (0, 0))) := ⟨h5_⟩
   have GW540 : Aside0 (w.heap.size ≤ gb540) := ⟨h6_⟩
   have GE540 : Aside0 (w.heap.size ≤ gb540) := ⟨h7_⟩
   have NB526_540 : Aside0 (gb526 ≠ gb540) := ⟨h8_⟩
   have NB540_526 : Aside0 (gb540 ≠ gb526) := ⟨h9_⟩
   have NB527_540 : Aside0 (gb527 ≠ gb540) := ⟨h10_⟩
   have NB540_527 : Aside0 (gb540 ≠ gb527) := ⟨h11_⟩
   have NB541_540 : Aside0 (gb541 ≠ gb540) := ⟨h12_⟩
   have NB540_541 : Aside0 (gb540 ≠ gb541) := ⟨h13_⟩
   have GW541 : Aside0 (w.heap.size ≤ gb541) := ⟨h14_⟩
   have GE541 : Aside0 (w.heap.size ≤ gb541) := ⟨h15_⟩
   have NB526_541 : Aside0 (gb526 ≠ gb541) := ⟨h16_⟩
   have NB541_526 : Aside0 (gb541 ≠ gb526) := ⟨h17_⟩
   have NB527_541 : Aside0 (gb527 ≠ gb541) := ⟨h18_⟩
   have NB541_527 : Aside0 (gb541 ≠ gb527) := ⟨h19_⟩
   replace HB : Aside0 (Below w.heap.size w w22) := ⟨h20_⟩
   clear h0_ h1_ h2_ h3_ h4_ h5_ h6_ h7_ h8_ h9_ h10_ h11_ h12_ h13_ h14_ h15_ h16_ h17_ h18_ h19_ h20_
   have hHeld := hS0_ _ BK526.out HB.out
   obtain ⟨Ao25, co25, eo25⟩ := Kd.N_slice HO533.out
   (first | subst eo25 | (injection eo25 with f1_ f2_ f3_; have f4_ := f1_.symm; have f5_ := f3_.symm; clear f1_ f2_ f3_; subst f4_; subst f5_))
   obtain ⟨Ao29, co29, eo29⟩ := Kd.N_slice HO539.out
   (first | subst eo29 | (injection eo29 with f1_ f2_ f3_; have f4_ := f1_.symm; have f5_ := f3_.symm; clear f1_ f2_ f3_; subst f4_; subst f5_))
   refine norm_ (a' := ?_) ?_ ?_
   rotate_left
   ·simp only [putAll, Act.put, List.setIfInBounds_toArray, List.set_cons_zero, List.set_cons_succ]
    rfl
   refine one_ (i := 12) (N := none) #[true, true, true, true, true, true, true, true, true, true, true, true, true, false] rfl rfl (one_of HT_.out (by kernel_rfl)) (by decide) (fun K hK => ?_)
   have hs23 : w22.cell? ⟨gb540, 0, none⟩ = some (.int .i64 0) := (blk_cell BK540.out 0).trans rfl
   have hfs23 := blk_frozen BK540.out 0
   have hns23_0 := NB526_540.out
   have hns23_1 := NB527_540.out
   have hns23_3 := NB541_540.out
   have hms23_0 := NB540_526.out
   have hms23_1 := NB540_527.out
   have hms23_3 := NB540_541.out
   have hs24 : w22.cell? ⟨gb540, 1, none⟩ = some (.int .i64 0) := (blk_cell BK540.out 1).trans rfl
   have hfs24 := blk_frozen BK540.out 1
   have hns24_0 := NB526_540.out
   have hns24_1 := NB527_540.out
   have hns24_3 := NB541_540.out
   have hms24_0 := NB540_526.out
   have hms24_1 := NB540_527.out
   have hms24_3 := NB540_541.out
   have hs26 : w22.cell? ⟨gb540, 2, none⟩ = some (.slice none 0 0) := (blk_cell BK540.out 2).trans rfl
   have hfs26 := blk_frozen BK540.out 2
   have hns26_0 := NB526_540.out
   have hns26_1 := NB527_540.out
   have hns26_3 := NB541_540.out
   have hms26_0 := NB540_526.out
   have hms26_1 := NB540_527.out
   have hms26_3 := NB540_541.out
   refine skip_ (w1 := ?_) (by rfl) rfl ?_ ?_
   rotate_left
   ·go_simp
    rfl
   refine hK.out _ _ (hS0_ _ (blk_far (p := ⟨gb540, _, none⟩) (blk_far (p := ⟨gb540, _, none⟩) (blk_far (p := ⟨gb540, _, none⟩) BK526.out NB526_540.out _) NB526_540.out _) NB526_540.out _) (below_set (below_set (below_set HB.out GW540.out) GW540.out) GW540.out)) (fun hHeld => ?_)
   clear hK K
   refine one_ (i := 13) (N := none) #[true, true, true, true, true, true, true, true, true, true, true, true, true, true] rfl rfl (one_of HT_.out (by kernel_rfl)) (by decide) (fun K hK => ?_)
   have hs27 : w22.cell? ⟨gb541, 0, none⟩ = some (.int .i64 0) := (blk_cell BK541.out 0).trans rfl
   have hfs27 := blk_frozen BK541.out 0
   have hns27_0 := NB526_541.out
   have hns27_1 := NB527_541.out
   have hns27_2 := NB540_541.out
   have hms27_0 := NB541_526.out
   have hms27_1 := NB541_527.out
   have hms27_2 := NB541_540.out
   have hs28 : w22.cell? ⟨gb541, 1, none⟩ = some (.int .i64 0) := (blk_cell BK541.out 1).trans rfl
   have hfs28 := blk_frozen BK541.out 1
   have hns28_0 := NB526_541.out
   have hns28_1 := NB527_541.out
   have hns28_2 := NB540_541.out
   have hms28_0 := NB541_526.out
   have hms28_1 := NB541_527.out
   have hms28_2 := NB541_540.out
   have hs30 : w22.cell? ⟨gb541, 2, none⟩ = some (.slice none 0 0) := (blk_cell BK541.out 2).trans rfl
   have hfs30 := blk_frozen BK541.out 2
   have hns30_0 := NB526_541.out
   have hns30_1 := NB527_541.out
   have hns30_2 := NB540_541.out
   have hms30_0 := NB541_526.out
   have hms30_1 := NB541_527.out
   have hms30_2 := NB541_540.out
   refine skip_ (w1 := ?_) (by rfl) rfl ?_ ?_
   rotate_left
   ·go_simp
    rfl
   refine hK.out _ _ (hS0_ _ (blk_far (p := ⟨gb541, _, none⟩) (blk_far (p := ⟨gb541, _, none⟩) (blk_far (p := ⟨gb541, _, none⟩) (blk_far (p := ⟨gb540, _, none⟩) (blk_far (p := ⟨gb540, _, none⟩) (blk_far (p := ⟨gb540, _, none⟩) BK526.out NB526_540.out _) NB526_540.out _) NB526_540.out _) NB526_541.out _) NB526_541.out _) NB526_541.out _) (below_set (below_set (below_set (below_set (below_set (below_set HB.out GW540.out) GW540.out) GW540.out) GW541.out) GW541.out) GW541.out)) (fun hHeld => ?_)
   clear hK K
   refine done_ (done_of HT_.out (by kernel_rfl)) ?_
   go_upto_region 4 with (fail)
   go_cut [32] (fun v32 wc => ∃ (kq : Nat) (x32_11 : Bool), v32 = .bool x32_11 ∧ Aside0 (impl_exprFold.j0 kq x32_11 a0_0 a0_1 l0_2 t529 t530 t531 t535 t536 t537 = some (r1, r2, r3)) ∧ Aside0 (kq ≤ k) ∧ Aside0 (Kd.N k32 32 wc w.heap.size (fun k_ => (w.heap.size ≤ k_) ∧ some k_ ≠ ((.slice Ao29 t537.length co29) : Value).ownBlock ∧ k_ ≠ gb526 ∧ k_ ≠ gb527 ∧ k_ ≠ gb540 ∧ k_ ≠ gb541) (.slice Ao25 t531.length co25) t531) ∧ Aside0 (Kd.N k32 32 wc w.heap.size (fun k_ => (w.heap.size ≤ k_) ∧ some k_ ≠ ((.slice Ao25 t531.length co25) : Value).ownBlock ∧ k_ ≠ gb526 ∧ k_ ≠ gb527 ∧ k_ ≠ gb540 ∧ k_ ≠ gb541) (.slice Ao29 t537.length co29) t537) ∧ Aside0 (wc.heap[gb526]? = some (.cells #[.int .i64 a0_0, .int .i64 a0_1, (.slice (some ad528) l0_2.length c0_2)] 32 (0, 0))) ∧ Aside0 (wc.heap[gb527]? = some (.cells #[.int .i64 0, .int .i64 0, (.slice none 0 0)] 32 (0, 0))) ∧ Aside0 (wc.heap[gb540]? = some (.cells #[.int .i64 t529, .int .i64 t530, (.slice Ao25 t531.length co25)] 32 (0, 0))) ∧ Aside0 (wc.heap[gb541]? = some (.cells #[.int .i64 t535, .int .i64 t536, (.slice Ao29 t537.length co29)] 32 (0, 0))) ∧ Aside0 (Below w.heap.size w wc))
   case first =>
    have H := HC12.out
    clear HC12
    by_cases c31 : t529 = 0
    ·rw [if_pos c31] at H
     have c31b0 : (t529 == 0) = true := beq_iff_eq.mpr c31
     have c31b1 : (t529 != 0) = false := bne_eq_false_iff_eq.mpr c31
     clear c31
     (first | rw [c31b0] | (simp only [i64_w, i32_w]; rw [c31b0]) | skip)
     have H' := am H
     clear H
     have hnb32 := NB540_526.out
     have hnc32 := NB526_540.out
     have hnb33 := NB540_527.out
     have hnc33 := NB527_540.out
     have hnb34 := NB540_541.out
     have hnc34 := NB541_540.out
     obtain ⟨hcz35_0, hcz35_1, hcz35_2, hfz35_0, hfz35_1, hfz35_2⟩ := bcf3_ BK540.out
     have hnb36 := NB541_526.out
     have hnc36 := NB526_541.out
     have hnb37 := NB541_527.out
     have hnc37 := NB527_541.out
     obtain ⟨hcz38_0, hcz38_1, hcz38_2, hfz38_0, hfz38_1, hfz38_2⟩ := bcf3_ BK541.out
     go_wp2
     go_meet
     case rel => exact ⟨_, ((t535 == 0)), sd_, H', ⟨by first | omega | exact Nat.le_refl _⟩, ⟨by (with_reducible repeat (first | apply Kd.N_alloc | apply Kd.N_drewN | apply Kd.N_drew)); exact Kd.N_mono (Kd.N_far (p := ⟨gb541, 2, none⟩) (Kd.N_far (p := ⟨gb541, 1, none⟩) (Kd.N_far (p := ⟨gb541, 0, none⟩) (Kd.N_far (p := ⟨gb540, 2, none⟩) (Kd.N_far (p := ⟨gb540, 1, none⟩) (Kd.N_far (p := ⟨gb540, 0, none⟩) (Kd.N_mono (Kd.N_mono HO533.out (fun k_ hk => (⟨hk, hk.2.2.2.2.1⟩ : _ ∧ k_ ≠ gb540))) (fun k_ hk => (⟨hk, hk.1.2.2.2.2.2⟩ : _ ∧ k_ ≠ gb541))) (fun _ hk => hk.1.2) (.int .i64 t529)) (fun _ hk => hk.1.2) (.int .i64 t530)) (fun _ hk => hk.1.2) (.slice Ao25 t531.length co25)) (fun _ hk => hk.2) (.int .i64 t535)) (fun _ hk => hk.2) (.int .i64 t536)) (fun _ hk => hk.2) (.slice Ao29 t537.length co29)) (fun _ hk => ⟨hk.1.1.1, ⟨hk.1.1.2.1, ⟨hk.1.1.2.2.1, ⟨hk.1.1.2.2.2.1, ⟨hk.1.1.2.2.2.2.1, hk.1.1.2.2.2.2.2⟩⟩⟩⟩⟩)⟩, ⟨by (with_reducible repeat (first | apply Kd.N_alloc | apply Kd.N_drewN | apply Kd.N_drew)); exact Kd.N_mono (Kd.N_far (p := ⟨gb541, 2, none⟩) (Kd.N_far (p := ⟨gb541, 1, none⟩) (Kd.N_far (p := ⟨gb541, 0, none⟩) (Kd.N_far (p := ⟨gb540, 2, none⟩) (Kd.N_far (p := ⟨gb540, 1, none⟩) (Kd.N_far (p := ⟨gb540, 0, none⟩) (Kd.N_mono (Kd.N_mono HO539.out (fun k_ hk => (⟨hk, hk.2.2.2.2.1⟩ : _ ∧ k_ ≠ gb540))) (fun k_ hk => (⟨hk, hk.1.2.2.2.2.2⟩ : _ ∧ k_ ≠ gb541))) (fun _ hk => hk.1.2) (.int .i64 t529)) (fun _ hk => hk.1.2) (.int .i64 t530)) (fun _ hk => hk.1.2) (.slice Ao25 t531.length co25)) (fun _ hk => hk.2) (.int .i64 t535)) (fun _ hk => hk.2) (.int .i64 t536)) (fun _ hk => hk.2) (.slice Ao29 t537.length co29)) (fun _ hk => ⟨hk.1.1.1, ⟨hk.1.1.2.1, ⟨hk.1.1.2.2.1, ⟨hk.1.1.2.2.2.1, ⟨hk.1.1.2.2.2.2.1, hk.1.1.2.2.2.2.2⟩⟩⟩⟩⟩)⟩, ⟨(blk_far (blk_far (blk_far (blk_far (blk_far (blk_far BK526.out NB526_540.out _) NB526_540.out _) NB526_540.out _) NB526_541.out _) NB526_541.out _) NB526_541.out _)⟩, ⟨(blk_far (blk_far (blk_far (blk_far (blk_far (blk_far BK527.out NB527_540.out _) NB527_540.out _) NB527_540.out _) NB527_541.out _) NB527_541.out _) NB527_541.out _)⟩, ⟨(blk_far (blk_far (blk_far (blk_put (blk_put (blk_put BK540.out 0 _ rfl) 1 _ rfl) 2 _ rfl) NB540_541.out _) NB540_541.out _) NB540_541.out _)⟩, ⟨(blk_put (blk_put (blk_put (blk_far (blk_far (blk_far BK541.out NB541_540.out _) NB541_540.out _) NB541_540.out _) 0 _ rfl) 1 _ rfl) 2 _ rfl)⟩, ⟨ab8_⟩⟩
    rw [if_neg c31] at H
    have c31b0 : (t529 == 0) = false := beq_eq_false_iff_ne.mpr c31
    have c31b1 : (t529 != 0) = true := bne_iff_ne.mpr c31
    (first | rw [c31b0] | (simp only [i64_w, i32_w]; rw [c31b0]) | skip)
    have H' := am H
    clear H
    have hnb39 := NB540_526.out
    have hnc39 := NB526_540.out
    have hnb40 := NB540_527.out
    have hnc40 := NB527_540.out
    have hnb41 := NB540_541.out
    have hnc41 := NB541_540.out
    obtain ⟨hcz42_0, hcz42_1, hcz42_2, hfz42_0, hfz42_1, hfz42_2⟩ := bcf3_ BK540.out
    go_wp2
    go_meet
    case rel => exact ⟨_, (false), sd_, H', ⟨by first | omega | exact Nat.le_refl _⟩, ⟨by (with_reducible repeat (first | apply Kd.N_alloc | apply Kd.N_drewN | apply Kd.N_drew)); exact Kd.N_mono (Kd.N_far (p := ⟨gb541, 2, none⟩) (Kd.N_far (p := ⟨gb541, 1, none⟩) (Kd.N_far (p := ⟨gb541, 0, none⟩) (Kd.N_far (p := ⟨gb540, 2, none⟩) (Kd.N_far (p := ⟨gb540, 1, none⟩) (Kd.N_far (p := ⟨gb540, 0, none⟩) (Kd.N_mono (Kd.N_mono HO533.out (fun k_ hk => (⟨hk, hk.2.2.2.2.1⟩ : _ ∧ k_ ≠ gb540))) (fun k_ hk => (⟨hk, hk.1.2.2.2.2.2⟩ : _ ∧ k_ ≠ gb541))) (fun _ hk => hk.1.2) (.int .i64 t529)) (fun _ hk => hk.1.2) (.int .i64 t530)) (fun _ hk => hk.1.2) (.slice Ao25 t531.length co25)) (fun _ hk => hk.2) (.int .i64 t535)) (fun _ hk => hk.2) (.int .i64 t536)) (fun _ hk => hk.2) (.slice Ao29 t537.length co29)) (fun _ hk => ⟨hk.1.1.1, ⟨hk.1.1.2.1, ⟨hk.1.1.2.2.1, ⟨hk.1.1.2.2.2.1, ⟨hk.1.1.2.2.2.2.1, hk.1.1.2.2.2.2.2⟩⟩⟩⟩⟩)⟩, ⟨by (with_reducible repeat (first | apply Kd.N_alloc | apply Kd.N_drewN | apply Kd.N_drew)); exact Kd.N_mono (Kd.N_far (p := ⟨gb541, 2, none⟩) (Kd.N_far (p := ⟨gb541, 1, none⟩) (Kd.N_far (p := ⟨gb541, 0, none⟩) (Kd.N_far (p := ⟨gb540, 2, none⟩) (Kd.N_far (p := ⟨gb540, 1, none⟩) (Kd.N_far (p := ⟨gb540, 0, none⟩) (Kd.N_mono (Kd.N_mono HO539.out (fun k_ hk => (⟨hk, hk.2.2.2.2.1⟩ : _ ∧ k_ ≠ gb540))) (fun k_ hk => (⟨hk, hk.1.2.2.2.2.2⟩ : _ ∧ k_ ≠ gb541))) (fun _ hk => hk.1.2) (.int .i64 t529)) (fun _ hk => hk.1.2) (.int .i64 t530)) (fun _ hk => hk.1.2) (.slice Ao25 t531.length co25)) (fun _ hk => hk.2) (.int .i64 t535)) (fun _ hk => hk.2) (.int .i64 t536)) (fun _ hk => hk.2) (.slice Ao29 t537.length co29)) (fun _ hk => ⟨hk.1.1.1, ⟨hk.1.1.2.1, ⟨hk.1.1.2.2.1, ⟨hk.1.1.2.2.2.1, ⟨hk.1.1.2.2.2.2.1, hk.1.1.2.2.2.2.2⟩⟩⟩⟩⟩)⟩, ⟨(blk_far (blk_far (blk_far (blk_far (blk_far (blk_far BK526.out NB526_540.out _) NB526_540.out _) NB526_540.out _) NB526_541.out _) NB526_541.out _) NB526_541.out _)⟩, ⟨(blk_far (blk_far (blk_far (blk_far (blk_far (blk_far BK527.out NB527_540.out _) NB527_540.out _) NB527_540.out _) NB527_541.out _) NB527_541.out _) NB527_541.out _)⟩, ⟨(blk_far (blk_far (blk_far (blk_put (blk_put (blk_put BK540.out 0 _ rfl) 1 _ rfl) 2 _ rfl) NB540_541.out _) NB540_541.out _) NB540_541.out _)⟩, ⟨(blk_put (blk_put (blk_put (blk_far (blk_far (blk_far BK541.out NB541_540.out _) NB541_540.out _) NB541_540.out _) 0 _ rfl) 1 _ rfl) 2 _ rfl)⟩, ⟨ab8_⟩⟩
   case rest =>
    clear HC12
    obtain ⟨kq, x32_11, rfl, HA, HJ11, HO_541002, HO_542002, BK526, BK527, BK540, BK541, HB⟩ := hcut
    cases kq with
    | zero => exact absurd HA.out (by simp [impl_exprFold.j0])
    | succ kj11 =>
     have H := HA.out
     clear HA
     simp only [impl_exprFold.j0] at H
     by_cases c43 : x32_11 = true
     ·subst c43
      rw [if_pos rfl] at H
      obtain ⟨t542, A440, H⟩ := bsm H
      (try dsimp only at H)
      have A44 := am A440
      clear A440
      by_cases c45 : t542 ≥ 0
      ·rw [if_pos c45] at H
       have c45b0 : decide (0 ≤ t542) = true := decide_eq_true c45
       clear c45
       by_cases c46 : t542 ≤ 99999
       ·rw [if_pos c46] at H
        have c46b0 : decide (t542 ≤ 99999) = true := decide_eq_true c46
        clear c46
        simp only [Option.some.injEq, Prod.mk.injEq] at H
        obtain ⟨rfl, rfl, rfl⟩ := H
        have hnb47 := NB526_527.out
        have hnc47 := NB527_526.out
        have hnb48 := NB526_540.out
        have hnc48 := NB540_526.out
        have hnb49 := NB526_541.out
        have hnc49 := NB541_526.out
        obtain ⟨hcz50_0, hcz50_1, hcz50_2, hfz50_0, hfz50_1, hfz50_2⟩ := bcf3_ BK526.out
        have hnb51 := NB540_527.out
        have hnc51 := NB527_540.out
        have hnb52 := NB540_541.out
        have hnc52 := NB541_540.out
        obtain ⟨hcz53_0, hcz53_1, hcz53_2, hfz53_0, hfz53_1, hfz53_2⟩ := bcf3_ BK540.out
        have hnb54 := NB541_527.out
        have hnc54 := NB527_541.out
        obtain ⟨hcz55_0, hcz55_1, hcz55_2, hfz55_0, hfz55_1, hfz55_2⟩ := bcf3_ BK541.out
        go_wp2_with (first | ((with_reducible refine gate_callee (f := 94) rfl ?_); refine goesL_ (some 39) rfl rfl Try.func94 (by kernel_rfl) rfl #[.int .i64 a0_0, .int .i64 t530, .int .i64 t536] rfl ab1_ ?_; (with_reducible refine (impl_apply.calls a0_0 t530 t536 t542 _ A44.out).mono ?_); rintro e w' ⟨rfl, ⟨nd, rfl⟩⟩; refine ⟨_, rfl, ?_⟩; (try (rw [drewN_self wc]; generalize hq_ : World.drewN wc _ = wc; replace HO_541002 : Aside0 (Kd.N k32 32 wc w.heap.size (fun k_ => (w.heap.size ≤ k_) ∧ some k_ ≠ (.slice Ao29 t537.length co29 : Value).ownBlock ∧ k_ ≠ gb526 ∧ k_ ≠ gb527 ∧ k_ ≠ gb540 ∧ k_ ≠ gb541) (.slice Ao25 t531.length co25) t531) := ⟨by rw [← hq_]; exact (aN_ HO_541002.out)⟩; replace HO_542002 : Aside0 (Kd.N k32 32 wc w.heap.size (fun k_ => (w.heap.size ≤ k_) ∧ some k_ ≠ (.slice Ao25 t531.length co25 : Value).ownBlock ∧ k_ ≠ gb526 ∧ k_ ≠ gb527 ∧ k_ ≠ gb540 ∧ k_ ≠ gb541) (.slice Ao29 t537.length co29) t537) := ⟨by rw [← hq_]; exact (aN_ HO_542002.out)⟩; replace BK526 : Aside0 (wc.heap[gb526]? = some (.cells #[.int .i64 a0_0, .int .i64 a0_1, .slice (some ad528) l0_2.length c0_2] 32 (0, 0))) := ⟨by rw [← hq_]; exact (aG_ BK526.out)⟩; replace BK527 : Aside0 (wc.heap[gb527]? = some (.cells #[.int .i64 0, .int .i64 0, .slice none 0 0] 32 (0, 0))) := ⟨by rw [← hq_]; exact (aG_ BK527.out)⟩; replace BK540 : Aside0 (wc.heap[gb540]? = some (.cells #[.int .i64 t529, .int .i64 t530, .slice Ao25 t531.length co25] 32 (0, 0))) := ⟨by rw [← hq_]; exact (aG_ BK540.out)⟩; replace BK541 : Aside0 (wc.heap[gb541]? = some (.cells #[.int .i64 t535, .int .i64 t536, .slice Ao29 t537.length co29] 32 (0, 0))) := ⟨by rw [← hq_]; exact (aG_ BK541.out)⟩; replace HB : Aside0 (Below w.heap.size w wc) := ⟨by rw [← hq_]; exact ab8_⟩; clear hq_; obtain ⟨hczG1_0, hfzG1_0⟩ := bcf1_ BK526.out; have hczG1_1 : wc.cell? ⟨gb526, 1, none⟩ = some (.int .i64 a0_1) := (blk_cell BK526.out 1).trans rfl; have hfzG1_1 := blk_frozen BK526.out 1; have hczG1_2 : wc.cell? ⟨gb526, 2, none⟩ = some (.slice (some ad528) l0_2.length c0_2) := (blk_cell BK526.out 2).trans rfl; have hfzG1_2 := blk_frozen BK526.out 2; obtain ⟨hczG2_0, hfzG2_0⟩ := bcf1_ BK527.out; have hczG2_1 : wc.cell? ⟨gb527, 1, none⟩ = some (.int .i64 0) := (blk_cell BK527.out 1).trans rfl; have hfzG2_1 := blk_frozen BK527.out 1; have hczG2_2 : wc.cell? ⟨gb527, 2, none⟩ = some (.slice none 0 0) := (blk_cell BK527.out 2).trans rfl; have hfzG2_2 := blk_frozen BK527.out 2; obtain ⟨hczG3_0, hfzG3_0⟩ := bcf1_ BK540.out; have hczG3_1 : wc.cell? ⟨gb540, 1, none⟩ = some (.int .i64 t530) := (blk_cell BK540.out 1).trans rfl; have hfzG3_1 := blk_frozen BK540.out 1; have hczG3_2 : wc.cell? ⟨gb540, 2, none⟩ = some (.slice Ao25 t531.length co25) := (blk_cell BK540.out 2).trans rfl; have hfzG3_2 := blk_frozen BK540.out 2; obtain ⟨hczG4_0, hfzG4_0⟩ := bcf1_ BK541.out; have hczG4_1 : wc.cell? ⟨gb541, 1, none⟩ = some (.int .i64 t536) := (blk_cell BK541.out 1).trans rfl; have hfzG4_1 := blk_frozen BK541.out 1; have hczG4_2 : wc.cell? ⟨gb541, 2, none⟩ = some (.slice Ao29 t537.length co29) := (blk_cell BK541.out 2).trans rfl; have hfzG4_2 := blk_frozen BK541.out 2)); obtain ⟨hcz56_0, hcz56_1, hcz56_2, hfz56_0, hfz56_1, hfz56_2⟩ := bcf3_ BK527.out))
        refine bodyPost_ret (results_cell_row rfl _ _ gb527 32 #[.int .i64 0, .int .i64 t542, .slice none 0 0] (0, 0) _ rfl (blk_put (blk_put (blk_put BK527.out 0 _ rfl) 1 _ rfl) 2 _ rfl) Try.underlying32 rfl (by kernel_rfl)) rfl ?_
        exact ⟨_, ab11_, by first | exact Kd.R_nil _ _ _ _ _ | exact Kd.N_nil _ _ _ _ _ | exact Kd.V_nil _ _ _ _ _ | exact Kd.Q_nil _ _ _ _ _ | exact Kd.S_nil _ _ _ _ _, ab8_⟩
       rw [if_neg c46] at H
       have c46b0 : decide (t542 ≤ 99999) = false := decide_eq_false c46
       clear c46
       obtain ⟨y543, hy543⟩ : ∃ y_ : List (S32), y_ = (([(⟨t529, t530, t531⟩ : S32), (⟨t535, t536, t537⟩ : S32)] : List (S32))) := ⟨_, rfl⟩
       replace H : (some (a0_0, 0, y543)) = some (r1, r2, r3) := by first | (rw [hy543]; with_reducible exact H) | (have H2_ := (Option.bind_some _ _).symm.trans H; rw [hy543]; with_reducible exact H2_) | (have H2_ := (Option.bind_some _ _).symm.trans H; with_reducible exact H2_) | with_reducible exact H | (rw [hy543]; exact H) | exact H
       have Ny543 := am hy543
       clear hy543
       simp only [Option.some.injEq, Prod.mk.injEq] at H
       obtain ⟨rfl, rfl, rfl⟩ := H
       have hnb57 := NB526_527.out
       have hnc57 := NB527_526.out
       have hnb58 := NB526_540.out
       have hnc58 := NB540_526.out
       have hnb59 := NB526_541.out
       have hnc59 := NB541_526.out
       obtain ⟨hcz60_0, hcz60_1, hcz60_2, hfz60_0, hfz60_1, hfz60_2⟩ := bcf3_ BK526.out
       have hnb61 := NB540_527.out
       have hnc61 := NB527_540.out
       have hnb62 := NB540_541.out
       have hnc62 := NB541_540.out
       obtain ⟨hcz63_0, hcz63_1, hcz63_2, hfz63_0, hfz63_1, hfz63_2⟩ := bcf3_ BK540.out
       have hnb64 := NB541_527.out
       have hnc64 := NB527_541.out
       obtain ⟨hcz65_0, hcz65_1, hcz65_2, hfz65_0, hfz65_1, hfz65_2⟩ := bcf3_ BK541.out
       go_wp2_with (first | ((with_reducible refine gate_callee (f := 94) rfl ?_); refine goesL_ (some 39) rfl rfl Try.func94 (by kernel_rfl) rfl #[.int .i64 a0_0, .int .i64 t530, .int .i64 t536] rfl ab1_ ?_; (with_reducible refine (impl_apply.calls a0_0 t530 t536 t542 _ A44.out).mono ?_); rintro e w' ⟨rfl, ⟨nd, rfl⟩⟩; refine ⟨_, rfl, ?_⟩; (try (rw [drewN_self wc]; generalize hq_ : World.drewN wc _ = wc; replace HO_541002 : Aside0 (Kd.N k32 32 wc w.heap.size (fun k_ => (w.heap.size ≤ k_) ∧ some k_ ≠ (.slice Ao29 t537.length co29 : Value).ownBlock ∧ k_ ≠ gb526 ∧ k_ ≠ gb527 ∧ k_ ≠ gb540 ∧ k_ ≠ gb541) (.slice Ao25 t531.length co25) t531) := ⟨by rw [← hq_]; exact (aN_ HO_541002.out)⟩; replace HO_542002 : Aside0 (Kd.N k32 32 wc w.heap.size (fun k_ => (w.heap.size ≤ k_) ∧ some k_ ≠ (.slice Ao25 t531.length co25 : Value).ownBlock ∧ k_ ≠ gb526 ∧ k_ ≠ gb527 ∧ k_ ≠ gb540 ∧ k_ ≠ gb541) (.slice Ao29 t537.length co29) t537) := ⟨by rw [← hq_]; exact (aN_ HO_542002.out)⟩; replace BK526 : Aside0 (wc.heap[gb526]? = some (.cells #[.int .i64 a0_0, .int .i64 a0_1, .slice (some ad528) l0_2.length c0_2] 32 (0, 0))) := ⟨by rw [← hq_]; exact (aG_ BK526.out)⟩; replace BK527 : Aside0 (wc.heap[gb527]? = some (.cells #[.int .i64 0, .int .i64 0, .slice none 0 0] 32 (0, 0))) := ⟨by rw [← hq_]; exact (aG_ BK527.out)⟩; replace BK540 : Aside0 (wc.heap[gb540]? = some (.cells #[.int .i64 t529, .int .i64 t530, .slice Ao25 t531.length co25] 32 (0, 0))) := ⟨by rw [← hq_]; exact (aG_ BK540.out)⟩; replace BK541 : Aside0 (wc.heap[gb541]? = some (.cells #[.int .i64 t535, .int .i64 t536, .slice Ao29 t537.length co29] 32 (0, 0))) := ⟨by rw [← hq_]; exact (aG_ BK541.out)⟩; replace HB : Aside0 (Below w.heap.size w wc) := ⟨by rw [← hq_]; exact ab8_⟩; clear hq_; obtain ⟨hczG5_0, hfzG5_0⟩ := bcf1_ BK526.out; have hczG5_1 : wc.cell? ⟨gb526, 1, none⟩ = some (.int .i64 a0_1) := (blk_cell BK526.out 1).trans rfl; have hfzG5_1 := blk_frozen BK526.out 1; have hczG5_2 : wc.cell? ⟨gb526, 2, none⟩ = some (.slice (some ad528) l0_2.length c0_2) := (blk_cell BK526.out 2).trans rfl; have hfzG5_2 := blk_frozen BK526.out 2; obtain ⟨hczG6_0, hfzG6_0⟩ := bcf1_ BK527.out; have hczG6_1 : wc.cell? ⟨gb527, 1, none⟩ = some (.int .i64 0) := (blk_cell BK527.out 1).trans rfl; have hfzG6_1 := blk_frozen BK527.out 1; have hczG6_2 : wc.cell? ⟨gb527, 2, none⟩ = some (.slice none 0 0) := (blk_cell BK527.out 2).trans rfl; have hfzG6_2 := blk_frozen BK527.out 2; obtain ⟨hczG7_0, hfzG7_0⟩ := bcf1_ BK540.out; have hczG7_1 : wc.cell? ⟨gb540, 1, none⟩ = some (.int .i64 t530) := (blk_cell BK540.out 1).trans rfl; have hfzG7_1 := blk_frozen BK540.out 1; have hczG7_2 : wc.cell? ⟨gb540, 2, none⟩ = some (.slice Ao25 t531.length co25) := (blk_cell BK540.out 2).trans rfl; have hfzG7_2 := blk_frozen BK540.out 2; obtain ⟨hczG8_0, hfzG8_0⟩ := bcf1_ BK541.out; have hczG8_1 : wc.cell? ⟨gb541, 1, none⟩ = some (.int .i64 t536) := (blk_cell BK541.out 1).trans rfl; have hfzG8_1 := blk_frozen BK541.out 1; have hczG8_2 : wc.cell? ⟨gb541, 2, none⟩ = some (.slice Ao29 t537.length co29) := (blk_cell BK541.out 2).trans rfl; have hfzG8_2 := blk_frozen BK541.out 2))) | ((with_reducible refine gate_dst (N := 52) rfl ?_); refine Kd.N_lit k32 _ 32 rfl (N' := 52) rfl (xs := ([(⟨t529, t530, t531⟩ : S32), (⟨t535, t536, t537⟩ : S32)] : List (S32))) (inner := [.int .i64 t529, .int .i64 t530, .slice Ao25 t531.length co25, .int .i64 t535, .int .i64 t536, .slice Ao29 t537.length co29]) (ok := (fun k_ => (w.heap.size ≤ k_) ∧ k_ ≠ gb526 ∧ k_ ≠ gb527 ∧ k_ ≠ gb540 ∧ k_ ≠ gb541)) (okp := (fun k_ => (w.heap.size ≤ k_) ∧ k_ ≠ gb526 ∧ k_ ≠ gb527 ∧ k_ ≠ gb540 ∧ k_ ≠ gb541)) rn_ ?hp (fun _ hk => hk) ((show ∀ k_, wc.heap.size ≤ k_ → (fun k_ => (w.heap.size ≤ k_) ∧ k_ ≠ gb526 ∧ k_ ≠ gb527 ∧ k_ ≠ gb540 ∧ k_ ≠ gb541) k_ from fun k_ hk => ⟨(Nat.le_trans (below_size ab8_) hk), frb_ BK526.out k_ hk, frb_ BK527.out k_ hk, frb_ BK540.out k_ hk, frb_ BK541.out k_ hk⟩) _ (Nat.le_refl _)) (Below.refl _ _) (Nat.le_refl _) (by simp) ?_; (case hp => exact (Reps.c3 (show Kd.FK k32 _ _ (⟨t529, t530, t531⟩ : S32) [.int .i64 t529, .int .i64 t530, .slice Ao25 t531.length co25] from (k32_mkF _ _ (⟨t529, t530, t531⟩ : S32) (Kd.N_reads' (Kd.N_mono (ok' := (fun k_ => (w.heap.size ≤ k_) ∧ k_ ≠ gb526 ∧ k_ ≠ gb527 ∧ k_ ≠ gb540 ∧ k_ ≠ gb541)) (HO_541002.out) (fun k_ hk => ⟨hk.1, ⟨hk.2.2.1, ⟨hk.2.2.2.1, ⟨hk.2.2.2.2.1, hk.2.2.2.2.2⟩⟩⟩⟩))).2.1 (Kd.N_F (Kd.N_mono (ok' := (fun k_ => (w.heap.size ≤ k_) ∧ k_ ≠ gb526 ∧ k_ ≠ gb527 ∧ k_ ≠ gb540 ∧ k_ ≠ gb541)) (HO_541002.out) (fun k_ hk => ⟨hk.1, ⟨hk.2.2.1, ⟨hk.2.2.2.1, ⟨hk.2.2.2.2.1, hk.2.2.2.2.2⟩⟩⟩⟩))))) (Reps.c3 (show Kd.FK k32 _ _ (⟨t535, t536, t537⟩ : S32) [.int .i64 t535, .int .i64 t536, .slice Ao29 t537.length co29] from (k32_mkF _ _ (⟨t535, t536, t537⟩ : S32) (Kd.N_reads' (Kd.N_mono (ok' := (fun k_ => (w.heap.size ≤ k_) ∧ k_ ≠ gb526 ∧ k_ ≠ gb527 ∧ k_ ≠ gb540 ∧ k_ ≠ gb541)) (HO_542002.out) (fun k_ hk => ⟨hk.1, ⟨hk.2.2.1, ⟨hk.2.2.2.1, ⟨hk.2.2.2.2.1, hk.2.2.2.2.2⟩⟩⟩⟩))).2.1 (Kd.N_F (Kd.N_mono (ok' := (fun k_ => (w.heap.size ≤ k_) ∧ k_ ≠ gb526 ∧ k_ ≠ gb527 ∧ k_ ≠ gb540 ∧ k_ ≠ gb541)) (HO_542002.out) (fun k_ hk => ⟨hk.1, ⟨hk.2.2.1, ⟨hk.2.2.2.1, ⟨hk.2.2.2.2.1, hk.2.2.2.2.2⟩⟩⟩⟩))))) (Reps.none _ _)))); intro v544 w66 ho67 hb hg_ hnew_; clear hg_ hnew_; (first | rw [← Ny543.out] at ho67 | (simp only [Int.reduceToNat] at ho67; rw [← Ny543.out] at ho67)); have HO545 := am (Kd.N_lower ho67 (below_size ab8_)); replace BK526 := am (bbl_ BK526.out hb); replace BK527 := am (bbl_ BK527.out hb); replace BK540 := am (bbl_ BK540.out hb); replace BK541 := am (bbl_ BK541.out hb); replace HB := am (below_step ab8_ hb); clear HO_541002 HO_542002 hb ho67; obtain ⟨Ao68, co68, eo68⟩ := Kd.N_slice HO545.out; subst eo68; obtain ⟨hcz69_0, hcz69_1, hcz69_2, hfz69_0, hfz69_1, hfz69_2⟩ := bcf3_ BK527.out))
       refine bodyPost_ret (results_cell_row rfl _ _ gb527 32 #[.int .i64 a0_0, .int .i64 0, .slice Ao68 y543.length co68] (0, 0) _ rfl (blk_put (blk_put (blk_put BK527.out 0 _ rfl) 1 _ rfl) 2 _ rfl) Try.underlying32 rfl (by kernel_rfl)) rfl ?_
       exact ⟨_, ab11_, by (with_reducible repeat (first | apply Kd.N_alloc | apply Kd.N_drewN | apply Kd.N_drew)); exact Kd.N_mono (Kd.N_far (p := ⟨gb527, 2, none⟩) (Kd.N_far (p := ⟨gb527, 1, none⟩) (Kd.N_far (p := ⟨gb527, 0, none⟩) (Kd.N_mono HO545.out (fun k_ hk => (⟨hk, hk.2.2.1⟩ : _ ∧ k_ ≠ gb527))) (fun _ hk => hk.2) (.int .i64 a0_0)) (fun _ hk => hk.2) (.int .i64 0)) (fun _ hk => hk.2) (.slice Ao68 y543.length co68)) (fun _ hk => hk.1.1), ab8_⟩
      rw [if_neg c45] at H
      have c45b0 : decide (0 ≤ t542) = false := decide_eq_false c45
      clear c45
      obtain ⟨y546, hy546⟩ : ∃ y_ : List (S32), y_ = (([(⟨t529, t530, t531⟩ : S32), (⟨t535, t536, t537⟩ : S32)] : List (S32))) := ⟨_, rfl⟩
      replace H : (some (a0_0, 0, y546)) = some (r1, r2, r3) := by first | (rw [hy546]; with_reducible exact H) | (have H2_ := (Option.bind_some _ _).symm.trans H; rw [hy546]; with_reducible exact H2_) | (have H2_ := (Option.bind_some _ _).symm.trans H; with_reducible exact H2_) | with_reducible exact H | (rw [hy546]; exact H) | exact H
      have Ny546 := am hy546
      clear hy546
      simp only [Option.some.injEq, Prod.mk.injEq] at H
      obtain ⟨rfl, rfl, rfl⟩ := H
      have hnb70 := NB526_527.out
      have hnc70 := NB527_526.out
      have hnb71 := NB526_540.out
      have hnc71 := NB540_526.out
      have hnb72 := NB526_541.out
      have hnc72 := NB541_526.out
      obtain ⟨hcz73_0, hcz73_1, hcz73_2, hfz73_0, hfz73_1, hfz73_2⟩ := bcf3_ BK526.out
      have hnb74 := NB540_527.out
      have hnc74 := NB527_540.out
      have hnb75 := NB540_541.out
      have hnc75 := NB541_540.out
      obtain ⟨hcz76_0, hcz76_1, hcz76_2, hfz76_0, hfz76_1, hfz76_2⟩ := bcf3_ BK540.out
      have hnb77 := NB541_527.out
      have hnc77 := NB527_541.out
      obtain ⟨hcz78_0, hcz78_1, hcz78_2, hfz78_0, hfz78_1, hfz78_2⟩ := bcf3_ BK541.out
      go_wp2_with (first | ((with_reducible refine gate_callee (f := 94) rfl ?_); refine goesL_ (some 39) rfl rfl Try.func94 (by kernel_rfl) rfl #[.int .i64 a0_0, .int .i64 t530, .int .i64 t536] rfl ab1_ ?_; (with_reducible refine (impl_apply.calls a0_0 t530 t536 t542 _ A44.out).mono ?_); rintro e w' ⟨rfl, ⟨nd, rfl⟩⟩; refine ⟨_, rfl, ?_⟩; (try (rw [drewN_self wc]; generalize hq_ : World.drewN wc _ = wc; replace HO_541002 : Aside0 (Kd.N k32 32 wc w.heap.size (fun k_ => (w.heap.size ≤ k_) ∧ some k_ ≠ (.slice Ao29 t537.length co29 : Value).ownBlock ∧ k_ ≠ gb526 ∧ k_ ≠ gb527 ∧ k_ ≠ gb540 ∧ k_ ≠ gb541) (.slice Ao25 t531.length co25) t531) := ⟨by rw [← hq_]; exact (aN_ HO_541002.out)⟩; replace HO_542002 : Aside0 (Kd.N k32 32 wc w.heap.size (fun k_ => (w.heap.size ≤ k_) ∧ some k_ ≠ (.slice Ao25 t531.length co25 : Value).ownBlock ∧ k_ ≠ gb526 ∧ k_ ≠ gb527 ∧ k_ ≠ gb540 ∧ k_ ≠ gb541) (.slice Ao29 t537.length co29) t537) := ⟨by rw [← hq_]; exact (aN_ HO_542002.out)⟩; replace BK526 : Aside0 (wc.heap[gb526]? = some (.cells #[.int .i64 a0_0, .int .i64 a0_1, .slice (some ad528) l0_2.length c0_2] 32 (0, 0))) := ⟨by rw [← hq_]; exact (aG_ BK526.out)⟩; replace BK527 : Aside0 (wc.heap[gb527]? = some (.cells #[.int .i64 0, .int .i64 0, .slice none 0 0] 32 (0, 0))) := ⟨by rw [← hq_]; exact (aG_ BK527.out)⟩; replace BK540 : Aside0 (wc.heap[gb540]? = some (.cells #[.int .i64 t529, .int .i64 t530, .slice Ao25 t531.length co25] 32 (0, 0))) := ⟨by rw [← hq_]; exact (aG_ BK540.out)⟩; replace BK541 : Aside0 (wc.heap[gb541]? = some (.cells #[.int .i64 t535, .int .i64 t536, .slice Ao29 t537.length co29] 32 (0, 0))) := ⟨by rw [← hq_]; exact (aG_ BK541.out)⟩; replace HB : Aside0 (Below w.heap.size w wc) := ⟨by rw [← hq_]; exact ab8_⟩; clear hq_; obtain ⟨hczG9_0, hfzG9_0⟩ := bcf1_ BK526.out; have hczG9_1 : wc.cell? ⟨gb526, 1, none⟩ = some (.int .i64 a0_1) := (blk_cell BK526.out 1).trans rfl; have hfzG9_1 := blk_frozen BK526.out 1; have hczG9_2 : wc.cell? ⟨gb526, 2, none⟩ = some (.slice (some ad528) l0_2.length c0_2) := (blk_cell BK526.out 2).trans rfl; have hfzG9_2 := blk_frozen BK526.out 2; obtain ⟨hczG10_0, hfzG10_0⟩ := bcf1_ BK527.out; have hczG10_1 : wc.cell? ⟨gb527, 1, none⟩ = some (.int .i64 0) := (blk_cell BK527.out 1).trans rfl; have hfzG10_1 := blk_frozen BK527.out 1; have hczG10_2 : wc.cell? ⟨gb527, 2, none⟩ = some (.slice none 0 0) := (blk_cell BK527.out 2).trans rfl; have hfzG10_2 := blk_frozen BK527.out 2; obtain ⟨hczG11_0, hfzG11_0⟩ := bcf1_ BK540.out; have hczG11_1 : wc.cell? ⟨gb540, 1, none⟩ = some (.int .i64 t530) := (blk_cell BK540.out 1).trans rfl; have hfzG11_1 := blk_frozen BK540.out 1; have hczG11_2 : wc.cell? ⟨gb540, 2, none⟩ = some (.slice Ao25 t531.length co25) := (blk_cell BK540.out 2).trans rfl; have hfzG11_2 := blk_frozen BK540.out 2; obtain ⟨hczG12_0, hfzG12_0⟩ := bcf1_ BK541.out; have hczG12_1 : wc.cell? ⟨gb541, 1, none⟩ = some (.int .i64 t536) := (blk_cell BK541.out 1).trans rfl; have hfzG12_1 := blk_frozen BK541.out 1; have hczG12_2 : wc.cell? ⟨gb541, 2, none⟩ = some (.slice Ao29 t537.length co29) := (blk_cell BK541.out 2).trans rfl; have hfzG12_2 := blk_frozen BK541.out 2))) | ((with_reducible refine gate_dst (N := 52) rfl ?_); refine Kd.N_lit k32 _ 32 rfl (N' := 52) rfl (xs := ([(⟨t529, t530, t531⟩ : S32), (⟨t535, t536, t537⟩ : S32)] : List (S32))) (inner := [.int .i64 t529, .int .i64 t530, .slice Ao25 t531.length co25, .int .i64 t535, .int .i64 t536, .slice Ao29 t537.length co29]) (ok := (fun k_ => (w.heap.size ≤ k_) ∧ k_ ≠ gb526 ∧ k_ ≠ gb527 ∧ k_ ≠ gb540 ∧ k_ ≠ gb541)) (okp := (fun k_ => (w.heap.size ≤ k_) ∧ k_ ≠ gb526 ∧ k_ ≠ gb527 ∧ k_ ≠ gb540 ∧ k_ ≠ gb541)) rn_ ?hp (fun _ hk => hk) ((show ∀ k_, wc.heap.size ≤ k_ → (fun k_ => (w.heap.size ≤ k_) ∧ k_ ≠ gb526 ∧ k_ ≠ gb527 ∧ k_ ≠ gb540 ∧ k_ ≠ gb541) k_ from fun k_ hk => ⟨(Nat.le_trans (below_size ab8_) hk), frb_ BK526.out k_ hk, frb_ BK527.out k_ hk, frb_ BK540.out k_ hk, frb_ BK541.out k_ hk⟩) _ (Nat.le_refl _)) (Below.refl _ _) (Nat.le_refl _) (by simp) ?_; (case hp => exact (Reps.c3 (show Kd.FK k32 _ _ (⟨t529, t530, t531⟩ : S32) [.int .i64 t529, .int .i64 t530, .slice Ao25 t531.length co25] from (k32_mkF _ _ (⟨t529, t530, t531⟩ : S32) (Kd.N_reads' (Kd.N_mono (ok' := (fun k_ => (w.heap.size ≤ k_) ∧ k_ ≠ gb526 ∧ k_ ≠ gb527 ∧ k_ ≠ gb540 ∧ k_ ≠ gb541)) (HO_541002.out) (fun k_ hk => ⟨hk.1, ⟨hk.2.2.1, ⟨hk.2.2.2.1, ⟨hk.2.2.2.2.1, hk.2.2.2.2.2⟩⟩⟩⟩))).2.1 (Kd.N_F (Kd.N_mono (ok' := (fun k_ => (w.heap.size ≤ k_) ∧ k_ ≠ gb526 ∧ k_ ≠ gb527 ∧ k_ ≠ gb540 ∧ k_ ≠ gb541)) (HO_541002.out) (fun k_ hk => ⟨hk.1, ⟨hk.2.2.1, ⟨hk.2.2.2.1, ⟨hk.2.2.2.2.1, hk.2.2.2.2.2⟩⟩⟩⟩))))) (Reps.c3 (show Kd.FK k32 _ _ (⟨t535, t536, t537⟩ : S32) [.int .i64 t535, .int .i64 t536, .slice Ao29 t537.length co29] from (k32_mkF _ _ (⟨t535, t536, t537⟩ : S32) (Kd.N_reads' (Kd.N_mono (ok' := (fun k_ => (w.heap.size ≤ k_) ∧ k_ ≠ gb526 ∧ k_ ≠ gb527 ∧ k_ ≠ gb540 ∧ k_ ≠ gb541)) (HO_542002.out) (fun k_ hk => ⟨hk.1, ⟨hk.2.2.1, ⟨hk.2.2.2.1, ⟨hk.2.2.2.2.1, hk.2.2.2.2.2⟩⟩⟩⟩))).2.1 (Kd.N_F (Kd.N_mono (ok' := (fun k_ => (w.heap.size ≤ k_) ∧ k_ ≠ gb526 ∧ k_ ≠ gb527 ∧ k_ ≠ gb540 ∧ k_ ≠ gb541)) (HO_542002.out) (fun k_ hk => ⟨hk.1, ⟨hk.2.2.1, ⟨hk.2.2.2.1, ⟨hk.2.2.2.2.1, hk.2.2.2.2.2⟩⟩⟩⟩))))) (Reps.none _ _)))); intro v547 w79 ho80 hb hg_ hnew_; clear hg_ hnew_; (first | rw [← Ny546.out] at ho80 | (simp only [Int.reduceToNat] at ho80; rw [← Ny546.out] at ho80)); have HO548 := am (Kd.N_lower ho80 (below_size ab8_)); replace BK526 := am (bbl_ BK526.out hb); replace BK527 := am (bbl_ BK527.out hb); replace BK540 := am (bbl_ BK540.out hb); replace BK541 := am (bbl_ BK541.out hb); replace HB := am (below_step ab8_ hb); clear HO_541002 HO_542002 hb ho80; obtain ⟨Ao81, co81, eo81⟩ := Kd.N_slice HO548.out; subst eo81; obtain ⟨hcz82_0, hcz82_1, hcz82_2, hfz82_0, hfz82_1, hfz82_2⟩ := bcf3_ BK527.out))
      refine bodyPost_ret (results_cell_row rfl _ _ gb527 32 #[.int .i64 a0_0, .int .i64 0, .slice Ao81 y546.length co81] (0, 0) _ rfl (blk_put (blk_put (blk_put BK527.out 0 _ rfl) 1 _ rfl) 2 _ rfl) Try.underlying32 rfl (by kernel_rfl)) rfl ?_
      exact ⟨_, ab11_, by (with_reducible repeat (first | apply Kd.N_alloc | apply Kd.N_drewN | apply Kd.N_drew)); exact Kd.N_mono (Kd.N_far (p := ⟨gb527, 2, none⟩) (Kd.N_far (p := ⟨gb527, 1, none⟩) (Kd.N_far (p := ⟨gb527, 0, none⟩) (Kd.N_mono HO548.out (fun k_ hk => (⟨hk, hk.2.2.1⟩ : _ ∧ k_ ≠ gb527))) (fun _ hk => hk.2) (.int .i64 a0_0)) (fun _ hk => hk.2) (.int .i64 0)) (fun _ hk => hk.2) (.slice Ao81 y546.length co81)) (fun _ hk => hk.1.1), ab8_⟩
     replace c43 := Bool.eq_false_iff.mpr c43
     subst c43
     rw [if_neg (show ¬ (false = true) by decide)] at H
     obtain ⟨y549, hy549⟩ : ∃ y_ : List (S32), y_ = (([(⟨t529, t530, t531⟩ : S32), (⟨t535, t536, t537⟩ : S32)] : List (S32))) := ⟨_, rfl⟩
     replace H : (some (a0_0, 0, y549)) = some (r1, r2, r3) := by first | (rw [hy549]; with_reducible exact H) | (have H2_ := (Option.bind_some _ _).symm.trans H; rw [hy549]; with_reducible exact H2_) | (have H2_ := (Option.bind_some _ _).symm.trans H; with_reducible exact H2_) | with_reducible exact H | (rw [hy549]; exact H) | exact H
     have Ny549 := am hy549
     clear hy549
     simp only [Option.some.injEq, Prod.mk.injEq] at H
     obtain ⟨rfl, rfl, rfl⟩ := H
     have hnb83 := NB526_527.out
     have hnc83 := NB527_526.out
     have hnb84 := NB526_540.out
     have hnc84 := NB540_526.out
     have hnb85 := NB526_541.out
     have hnc85 := NB541_526.out
     obtain ⟨hcz86_0, hcz86_1, hcz86_2, hfz86_0, hfz86_1, hfz86_2⟩ := bcf3_ BK526.out
     have hnb87 := NB540_527.out
     have hnc87 := NB527_540.out
     have hnb88 := NB540_541.out
     have hnc88 := NB541_540.out
     obtain ⟨hcz89_0, hcz89_1, hcz89_2, hfz89_0, hfz89_1, hfz89_2⟩ := bcf3_ BK540.out
     have hnb90 := NB541_527.out
     have hnc90 := NB527_541.out
     obtain ⟨hcz91_0, hcz91_1, hcz91_2, hfz91_0, hfz91_1, hfz91_2⟩ := bcf3_ BK541.out
     go_wp2_with (first | ((with_reducible refine gate_dst (N := 52) rfl ?_); refine Kd.N_lit k32 _ 32 rfl (N' := 52) rfl (xs := ([(⟨t529, t530, t531⟩ : S32), (⟨t535, t536, t537⟩ : S32)] : List (S32))) (inner := [.int .i64 t529, .int .i64 t530, .slice Ao25 t531.length co25, .int .i64 t535, .int .i64 t536, .slice Ao29 t537.length co29]) (ok := (fun k_ => (w.heap.size ≤ k_) ∧ k_ ≠ gb526 ∧ k_ ≠ gb527 ∧ k_ ≠ gb540 ∧ k_ ≠ gb541)) (okp := (fun k_ => (w.heap.size ≤ k_) ∧ k_ ≠ gb526 ∧ k_ ≠ gb527 ∧ k_ ≠ gb540 ∧ k_ ≠ gb541)) rn_ ?hp (fun _ hk => hk) ((show ∀ k_, wc.heap.size ≤ k_ → (fun k_ => (w.heap.size ≤ k_) ∧ k_ ≠ gb526 ∧ k_ ≠ gb527 ∧ k_ ≠ gb540 ∧ k_ ≠ gb541) k_ from fun k_ hk => ⟨(Nat.le_trans (below_size ab8_) hk), frb_ BK526.out k_ hk, frb_ BK527.out k_ hk, frb_ BK540.out k_ hk, frb_ BK541.out k_ hk⟩) _ (Nat.le_refl _)) (Below.refl _ _) (Nat.le_refl _) (by simp) ?_; (case hp => exact (Reps.c3 (show Kd.FK k32 _ _ (⟨t529, t530, t531⟩ : S32) [.int .i64 t529, .int .i64 t530, .slice Ao25 t531.length co25] from (k32_mkF _ _ (⟨t529, t530, t531⟩ : S32) (Kd.N_reads' (Kd.N_mono (ok' := (fun k_ => (w.heap.size ≤ k_) ∧ k_ ≠ gb526 ∧ k_ ≠ gb527 ∧ k_ ≠ gb540 ∧ k_ ≠ gb541)) (HO_541002.out) (fun k_ hk => ⟨hk.1, ⟨hk.2.2.1, ⟨hk.2.2.2.1, ⟨hk.2.2.2.2.1, hk.2.2.2.2.2⟩⟩⟩⟩))).2.1 (Kd.N_F (Kd.N_mono (ok' := (fun k_ => (w.heap.size ≤ k_) ∧ k_ ≠ gb526 ∧ k_ ≠ gb527 ∧ k_ ≠ gb540 ∧ k_ ≠ gb541)) (HO_541002.out) (fun k_ hk => ⟨hk.1, ⟨hk.2.2.1, ⟨hk.2.2.2.1, ⟨hk.2.2.2.2.1, hk.2.2.2.2.2⟩⟩⟩⟩))))) (Reps.c3 (show Kd.FK k32 _ _ (⟨t535, t536, t537⟩ : S32) [.int .i64 t535, .int .i64 t536, .slice Ao29 t537.length co29] from (k32_mkF _ _ (⟨t535, t536, t537⟩ : S32) (Kd.N_reads' (Kd.N_mono (ok' := (fun k_ => (w.heap.size ≤ k_) ∧ k_ ≠ gb526 ∧ k_ ≠ gb527 ∧ k_ ≠ gb540 ∧ k_ ≠ gb541)) (HO_542002.out) (fun k_ hk => ⟨hk.1, ⟨hk.2.2.1, ⟨hk.2.2.2.1, ⟨hk.2.2.2.2.1, hk.2.2.2.2.2⟩⟩⟩⟩))).2.1 (Kd.N_F (Kd.N_mono (ok' := (fun k_ => (w.heap.size ≤ k_) ∧ k_ ≠ gb526 ∧ k_ ≠ gb527 ∧ k_ ≠ gb540 ∧ k_ ≠ gb541)) (HO_542002.out) (fun k_ hk => ⟨hk.1, ⟨hk.2.2.1, ⟨hk.2.2.2.1, ⟨hk.2.2.2.2.1, hk.2.2.2.2.2⟩⟩⟩⟩))))) (Reps.none _ _)))); intro v550 w92 ho93 hb hg_ hnew_; clear hg_ hnew_; (first | rw [← Ny549.out] at ho93 | (simp only [Int.reduceToNat] at ho93; rw [← Ny549.out] at ho93)); have HO551 := am (Kd.N_lower ho93 (below_size ab8_)); replace BK526 := am (bbl_ BK526.out hb); replace BK527 := am (bbl_ BK527.out hb); replace BK540 := am (bbl_ BK540.out hb); replace BK541 := am (bbl_ BK541.out hb); replace HB := am (below_step ab8_ hb); clear HO_541002 HO_542002 hb ho93; obtain ⟨Ao94, co94, eo94⟩ := Kd.N_slice HO551.out; subst eo94; obtain ⟨hcz95_0, hcz95_1, hcz95_2, hfz95_0, hfz95_1, hfz95_2⟩ := bcf3_ BK527.out))
     refine bodyPost_ret (results_cell_row rfl _ _ gb527 32 #[.int .i64 a0_0, .int .i64 0, .slice Ao94 y549.length co94] (0, 0) _ rfl (blk_put (blk_put (blk_put BK527.out 0 _ rfl) 1 _ rfl) 2 _ rfl) Try.underlying32 rfl (by kernel_rfl)) rfl ?_
     exact ⟨_, ab11_, by (with_reducible repeat (first | apply Kd.N_alloc | apply Kd.N_drewN | apply Kd.N_drew)); exact Kd.N_mono (Kd.N_far (p := ⟨gb527, 2, none⟩) (Kd.N_far (p := ⟨gb527, 1, none⟩) (Kd.N_far (p := ⟨gb527, 0, none⟩) (Kd.N_mono HO551.out (fun k_ hk => (⟨hk, hk.2.2.1⟩ : _ ∧ k_ ≠ gb527))) (fun _ hk => hk.2) (.int .i64 a0_0)) (fun _ hk => hk.2) (.int .i64 0)) (fun _ hk => hk.2) (.slice Ao94 y549.length co94)) (fun _ hk => hk.1.1), ab8_⟩
  rw [if_neg c10] at H
  exact absurd H (by simp)
 rw [if_neg c8] at H
 exact absurd H (by simp)
end Go.Proofs.Ytodhbeeibagiaaa.PA


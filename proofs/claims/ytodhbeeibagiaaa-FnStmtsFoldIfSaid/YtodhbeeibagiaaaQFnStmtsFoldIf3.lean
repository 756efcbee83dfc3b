/- Part 4 of the proof of FnStmtsFoldIf. -/
import Derived.Test.YtodhbeeibagiaaaQFnStmtsFoldIf2
set_option maxHeartbeats 8000000
set_option maxRecDepth 100000
namespace Go.Proofs.Ytodhbeeibagiaaa.PA
open Go.RowKit Go.Proofs.YtodhbeeibagiaaaW.PrintWords Go.Proofs.YtodhbeeibagiaaaW.PrintLast Go.Proofs.YtodhbeeibagiaaaW.PrintMore
attribute [local go_sem] max2_int min2_int max_two min_two max_three min_three max_four min_four
set_option linter.unusedVariables false
set_option linter.unusedSimpArgs false
theorem impl_apply.calls (a0 : Int) (a1 : Int) (a2 : Int) (r : Int) (w : World) (h : impl_apply.f a0 a1 a2 = some r) :
  Calls Try.prog 94 #[.int .i64 a0, .int .i64 a1, .int .i64 a2] w fun e w' => e = .returned (.int .i64 r) ∧ Drawn0 w w' := by
 have H : (if a0 = 1 then (some (Go.bits .or .i64 a1 a2)) else (if a0 = 2 then (some (Go.bits .xor .i64 a1 a2)) else (if a0 = 3 then (some (Go.bits .and .i64 a1 a2)) else (if a0 = 4 then ((impl_truth.f (a1 == a2)).bind fun t519 => (some t519)) else (if a0 = 5 then ((impl_truth.f (decide (a1 < a2))).bind fun t520 => (some t520)) else (if a0 = 6 then (if 0 ≤ (Go.bits .and .i64 a2 31) then ((impl_Wrap.f (shl .i64 a1 (Go.bits .and .i64 a2 31))).bind fun t521 => (some t521)) else (none)) else (if a0 = 7 then (if 0 ≤ (Go.bits .and .i64 a2 31) then (some (shr .i64 a1 (Go.bits .and .i64 a2 31))) else (none)) else (if a0 = 8 then ((impl_Wrap.f (wrap64 (a1 + a2))).bind fun t522 => (some t522)) else (if a0 = 9 then ((impl_Wrap.f (wrap64 (a1 - a2))).bind fun t523 => (some t523)) else (if a0 = 10 then ((impl_Wrap.f (wrap64 (a1 * a2))).bind fun t524 => (some t524)) else (if a0 = 11 then (if a2 = 0 then (some (-1)) else ((impl_Wrap.f (wrap64 (Int.tdiv a1 a2))).bind fun t525 => (some t525))) else (if a2 = 0 then (some a1) else (some (Int.tmod a1 a2)))))))))))))) = some r := h
 clear h
 by_cases c4 : a0 = 1
 ·rw [if_pos c4] at H
  have c4b0 : (a0 == 1) = true := beq_iff_eq.mpr c4
  have c4b1 : (a0 != 1) = false := bne_eq_false_iff_eq.mpr c4
  clear c4
  obtain rfl := Option.some.inj H
  go_enter Try.func94, Try.ntmps94
  go_wp2
  go_ret
  exact ⟨by first | rfl | (simp; done) | (simp [*]; done), ab18_⟩
 rw [if_neg c4] at H
 have c4b0 : (a0 == 1) = false := beq_eq_false_iff_ne.mpr c4
 have c4b1 : (a0 != 1) = true := bne_iff_ne.mpr c4
 by_cases c5 : a0 = 2
 ·rw [if_pos c5] at H
  have c5b0 : (a0 == 2) = true := beq_iff_eq.mpr c5
  have c5b1 : (a0 != 2) = false := bne_eq_false_iff_eq.mpr c5
  clear c5
  obtain rfl := Option.some.inj H
  go_enter Try.func94, Try.ntmps94
  go_wp2
  go_ret
  exact ⟨by first | rfl | (simp; done) | (simp [*]; done), ab18_⟩
 rw [if_neg c5] at H
 have c5b0 : (a0 == 2) = false := beq_eq_false_iff_ne.mpr c5
 have c5b1 : (a0 != 2) = true := bne_iff_ne.mpr c5
 by_cases c6 : a0 = 3
 ·rw [if_pos c6] at H
  have c6b0 : (a0 == 3) = true := beq_iff_eq.mpr c6
  have c6b1 : (a0 != 3) = false := bne_eq_false_iff_eq.mpr c6
  clear c6
  obtain rfl := Option.some.inj H
  go_enter Try.func94, Try.ntmps94
  go_wp2
  go_ret
  exact ⟨by first | rfl | (simp; done) | (simp [*]; done), ab18_⟩
 rw [if_neg c6] at H
 have c6b0 : (a0 == 3) = false := beq_eq_false_iff_ne.mpr c6
 have c6b1 : (a0 != 3) = true := bne_iff_ne.mpr c6
 by_cases c7 : a0 = 4
 ·rw [if_pos c7] at H
  have c7b0 : (a0 == 4) = true := beq_iff_eq.mpr c7
  have c7b1 : (a0 != 4) = false := bne_eq_false_iff_eq.mpr c7
  clear c7
  obtain ⟨t519, A80, H⟩ := bsm H
  (try dsimp only at H)
  have A8 := am A80
  clear A80
  obtain rfl := Option.some.inj H
  go_enter Try.func94, Try.ntmps94
  go_wp2_with (first | ((with_reducible refine gate_callee (f := 106) rfl ?_); refine goesL_ (some 28) rfl rfl Try.func106 (by kernel_rfl) rfl #[.bool (a1 == a2)] rfl ab1_ ?_; (with_reducible refine (impl_truth.calls (a1 == a2) t519 _ A8.out).mono ?_); rintro e w' ⟨rfl, ⟨nd, rfl⟩⟩; refine ⟨_, rfl, ?_⟩))
  go_ret
  exact ⟨by first | rfl | (simp; done) | (simp [*]; done), ab18_⟩
 rw [if_neg c7] at H
 have c7b0 : (a0 == 4) = false := beq_eq_false_iff_ne.mpr c7
 have c7b1 : (a0 != 4) = true := bne_iff_ne.mpr c7
 by_cases c9 : a0 = 5
 ·rw [if_pos c9] at H
  have c9b0 : (a0 == 5) = true := beq_iff_eq.mpr c9
  have c9b1 : (a0 != 5) = false := bne_eq_false_iff_eq.mpr c9
  clear c9
  obtain ⟨t520, A100, H⟩ := bsm H
  (try dsimp only at H)
  have A10 := am A100
  clear A100
  obtain rfl := Option.some.inj H
  go_enter Try.func94, Try.ntmps94
  go_wp2_with (first | ((with_reducible refine gate_callee (f := 106) rfl ?_); refine goesL_ (some 34) rfl rfl Try.func106 (by kernel_rfl) rfl #[.bool (decide (a1 < a2))] rfl ab1_ ?_; (with_reducible refine (impl_truth.calls (decide (a1 < a2)) t520 _ A10.out).mono ?_); rintro e w' ⟨rfl, ⟨nd, rfl⟩⟩; refine ⟨_, rfl, ?_⟩))
  go_ret
  exact ⟨by first | rfl | (simp; done) | (simp [*]; done), ab18_⟩
 rw [if_neg c9] at H
 have c9b0 : (a0 == 5) = false := beq_eq_false_iff_ne.mpr c9
 have c9b1 : (a0 != 5) = true := bne_iff_ne.mpr c9
 by_cases c11 : a0 = 6
 ·rw [if_pos c11] at H
  have c11b0 : (a0 == 6) = true := beq_iff_eq.mpr c11
  have c11b1 : (a0 != 6) = false := bne_eq_false_iff_eq.mpr c11
  clear c11
  by_cases c12 : 0 ≤ (Go.bits .and .i64 a2 31)
  ·rw [if_pos c12] at H
   have c12b0 := eq_true c12
   have c12b1 : decide (0 ≤ (Go.bits .and .i64 a2 31)) = true := decide_eq_true c12
   clear c12
   obtain ⟨ji13, hji13⟩ : ∃ j_ : Int, (shl .i64 a1 (Go.bits .and .i64 a2 31)) = j_ := ⟨_, rfl⟩
   replace H : ((impl_Wrap.f (ji13)).bind fun t521 => (some t521)) = some r := by first | (rw [hji13] at H; exact H) | (simp only [hji13] at H ⊢; exact H)
   have hji13_ : (IntKind.i64.wrap (a1 * 2 ^ min (Go.bits .and .i64 a2 31).toNat 64)) = ji13 := hji13
   have hji13z : (Go.bits .and .i64 a2 31) ≤ 64 → (IntKind.i64.wrap (a1 * 2 ^ (Go.bits .and .i64 a2 31).toNat)) = ji13 := shl_small hji13
   have hji13y : (wrap64 (a1 * 2 ^ min (Go.bits .and .i64 a2 31).toNat 64)) = ji13 := (i64_w _).symm.trans hji13_
   have hji13x : (Go.bits .and .i64 a2 31) ≤ 64 → (wrap64 (a1 * 2 ^ (Go.bits .and .i64 a2 31).toNat)) = ji13 := fun h_ => (i64_w _).symm.trans (hji13z h_)
   obtain ⟨t521, A140, H⟩ := bsm H
   (try dsimp only at H)
   have A14 := am A140
   clear A140
   obtain rfl := Option.some.inj H
   go_enter Try.func94, Try.ntmps94
   go_wp2_with (first | ((with_reducible refine gate_callee (f := 107) rfl ?_); refine goesL_ (some 41) rfl rfl Try.func107 (by kernel_rfl) rfl #[.int .i64 ji13] rfl (by (try simp only [List.map_toArray, List.map_cons, List.map_nil]); first | done | (simp only [hji13]; rfl) | rfl | (simp only [List.length_drop, List.length_take]; rfl)) ?_; (with_reducible refine (impl_Wrap.calls ji13 t521 _ A14.out).mono ?_); rintro e w' ⟨rfl, ⟨nd, rfl⟩⟩; refine ⟨_, rfl, ?_⟩))
   go_ret
   exact ⟨by first | rfl | (simp; done) | (simp only [← hji13] <;> (first | rfl | simp)) | (simp [*]; done), ab18_⟩
  rw [if_neg c12] at H
  exact absurd H (by simp)
 rw [if_neg c11] at H
 have c11b0 : (a0 == 6) = false := beq_eq_false_iff_ne.mpr c11
 have c11b1 : (a0 != 6) = true := bne_iff_ne.mpr c11
 by_cases c15 : a0 = 7
 ·rw [if_pos c15] at H
  have c15b0 : (a0 == 7) = true := beq_iff_eq.mpr c15
  have c15b1 : (a0 != 7) = false := bne_eq_false_iff_eq.mpr c15
  clear c15
  by_cases c16 : 0 ≤ (Go.bits .and .i64 a2 31)
  ·rw [if_pos c16] at H
   have c16b0 := eq_true c16
   have c16b1 : decide (0 ≤ (Go.bits .and .i64 a2 31)) = true := decide_eq_true c16
   clear c16
   obtain ⟨ji17, hji17⟩ : ∃ j_ : Int, (shr .i64 a1 (Go.bits .and .i64 a2 31)) = j_ := ⟨_, rfl⟩
   replace H : (some ji17) = some r := by first | (rw [hji17] at H; exact H) | (simp only [hji17] at H ⊢; exact H)
   have hji17_ : (a1 / 2 ^ min (Go.bits .and .i64 a2 31).toNat 64) = ji17 := hji17
   have hji17z : (Go.bits .and .i64 a2 31) ≤ 64 → (a1 / 2 ^ (Go.bits .and .i64 a2 31).toNat) = ji17 := shr_small hji17
   obtain rfl := Option.some.inj H
   go_enter Try.func94, Try.ntmps94
   go_wp2
   go_ret
   exact ⟨by first | rfl | (simp; done) | (simp only [← hji17] <;> (first | rfl | simp)) | (simp [*]; done), ab18_⟩
  rw [if_neg c16] at H
  exact absurd H (by simp)
 rw [if_neg c15] at H
 have c15b0 : (a0 == 7) = false := beq_eq_false_iff_ne.mpr c15
 have c15b1 : (a0 != 7) = true := bne_iff_ne.mpr c15
 by_cases c18 : a0 = 8
 ·rw [if_pos c18] at H
  have c18b0 : (a0 == 8) = true := beq_iff_eq.mpr c18
  have c18b1 : (a0 != 8) = false := bne_eq_false_iff_eq.mpr c18
  clear c18
  obtain ⟨t522, A190, H⟩ := bsm H
  (try dsimp only at H)
  have A19 := am A190
  clear A190
  obtain rfl := Option.some.inj H
  go_enter Try.func94, Try.ntmps94
  go_wp2_with (first | ((with_reducible refine gate_callee (f := 107) rfl ?_); refine goesL_ (some 53) rfl rfl Try.func107 (by kernel_rfl) rfl #[.int .i64 (wrap64 (a1 + a2))] rfl ab1_ ?_; (with_reducible refine (impl_Wrap.calls (wrap64 (a1 + a2)) t522 _ A19.out).mono ?_); rintro e w' ⟨rfl, ⟨nd, rfl⟩⟩; refine ⟨_, rfl, ?_⟩))
  go_ret
  exact ⟨by first | rfl | (simp; done) | (simp [*]; done), ab18_⟩
 rw [if_neg c18] at H
 have c18b0 : (a0 == 8) = false := beq_eq_false_iff_ne.mpr c18
 have c18b1 : (a0 != 8) = true := bne_iff_ne.mpr c18
 by_cases c20 : a0 = 9
 ·rw [if_pos c20] at H
  have c20b0 : (a0 == 9) = true := beq_iff_eq.mpr c20
  have c20b1 : (a0 != 9) = false := bne_eq_false_iff_eq.mpr c20
  clear c20
  obtain ⟨t523, A210, H⟩ := bsm H
  (try dsimp only at H)
  have A21 := am A210
  clear A210
  obtain rfl := Option.some.inj H
  go_enter Try.func94, Try.ntmps94
  go_wp2_with (first | ((with_reducible refine gate_callee (f := 107) rfl ?_); refine goesL_ (some 59) rfl rfl Try.func107 (by kernel_rfl) rfl #[.int .i64 (wrap64 (a1 - a2))] rfl ab1_ ?_; (with_reducible refine (impl_Wrap.calls (wrap64 (a1 - a2)) t523 _ A21.out).mono ?_); rintro e w' ⟨rfl, ⟨nd, rfl⟩⟩; refine ⟨_, rfl, ?_⟩))
  go_ret
  exact ⟨by first | rfl | (simp; done) | (simp [*]; done), ab18_⟩
 rw [if_neg c20] at H
 have c20b0 : (a0 == 9) = false := beq_eq_false_iff_ne.mpr c20
 have c20b1 : (a0 != 9) = true := bne_iff_ne.mpr c20
 by_cases c22 : a0 = 10
 ·rw [if_pos c22] at H
  have c22b0 : (a0 == 10) = true := beq_iff_eq.mpr c22
  have c22b1 : (a0 != 10) = false := bne_eq_false_iff_eq.mpr c22
  clear c22
  obtain ⟨t524, A230, H⟩ := bsm H
  (try dsimp only at H)
  have A23 := am A230
  clear A230
  obtain rfl := Option.some.inj H
  go_enter Try.func94, Try.ntmps94
  go_wp2_with (first | ((with_reducible refine gate_callee (f := 107) rfl ?_); refine goesL_ (some 65) rfl rfl Try.func107 (by kernel_rfl) rfl #[.int .i64 (wrap64 (a1 * a2))] rfl ab1_ ?_; (with_reducible refine (impl_Wrap.calls (wrap64 (a1 * a2)) t524 _ A23.out).mono ?_); rintro e w' ⟨rfl, ⟨nd, rfl⟩⟩; refine ⟨_, rfl, ?_⟩))
  go_ret
  exact ⟨by first | rfl | (simp; done) | (simp [*]; done), ab18_⟩
 rw [if_neg c22] at H
 have c22b0 : (a0 == 10) = false := beq_eq_false_iff_ne.mpr c22
 have c22b1 : (a0 != 10) = true := bne_iff_ne.mpr c22
 by_cases c24 : a0 = 11
 ·rw [if_pos c24] at H
  have c24b0 : (a0 == 11) = true := beq_iff_eq.mpr c24
  have c24b1 : (a0 != 11) = false := bne_eq_false_iff_eq.mpr c24
  clear c24
  by_cases c25 : a2 = 0
  ·rw [if_pos c25] at H
   have c25b0 : (a2 == 0) = true := beq_iff_eq.mpr c25
   have c25b1 : (a2 != 0) = false := bne_eq_false_iff_eq.mpr c25
   clear c25
   obtain rfl := Option.some.inj H
   go_enter Try.func94, Try.ntmps94
   go_wp2
   go_ret
   exact ⟨by first | rfl | (simp; done) | (simp [*]; done), ab18_⟩
  rw [if_neg c25] at H
  have c25b0 : (a2 == 0) = false := beq_eq_false_iff_ne.mpr c25
  have c25b1 : (a2 != 0) = true := bne_iff_ne.mpr c25
  obtain ⟨t525, A260, H⟩ := bsm H
  (try dsimp only at H)
  have A26 := am A260
  clear A260
  obtain rfl := Option.some.inj H
  go_enter Try.func94, Try.ntmps94
  go_wp2_with (first | ((with_reducible refine gate_callee (f := 107) rfl ?_); refine goesL_ (some 73) rfl rfl Try.func107 (by kernel_rfl) rfl #[.int .i64 (wrap64 (Int.tdiv a1 a2))] rfl ab1_ ?_; (with_reducible refine (impl_Wrap.calls (wrap64 (Int.tdiv a1 a2)) t525 _ A26.out).mono ?_); rintro e w' ⟨rfl, ⟨nd, rfl⟩⟩; refine ⟨_, rfl, ?_⟩))
  go_ret
  exact ⟨by first | rfl | (simp; done) | (simp [*]; done), ab18_⟩
 rw [if_neg c24] at H
 have c24b0 : (a0 == 11) = false := beq_eq_false_iff_ne.mpr c24
 have c24b1 : (a0 != 11) = true := bne_iff_ne.mpr c24
 by_cases c27 : a2 = 0
 ·rw [if_pos c27] at H
  have c27b0 : (a2 == 0) = true := beq_iff_eq.mpr c27
  have c27b1 : (a2 != 0) = false := bne_eq_false_iff_eq.mpr c27
  clear c27
  obtain rfl := Option.some.inj H
  go_enter Try.func94, Try.ntmps94
  go_wp2
  go_ret
  exact ⟨by first | rfl | (simp; done) | (simp [*]; done), ab18_⟩
 rw [if_neg c27] at H
 have c27b0 : (a2 == 0) = false := beq_eq_false_iff_ne.mpr c27
 have c27b1 : (a2 != 0) = true := bne_iff_ne.mpr c27
 obtain rfl := Option.some.inj H
 go_enter Try.func94, Try.ntmps94
 go_wp2
 go_ret
 exact ⟨by first | rfl | (simp; done) | (simp [*]; done), ab18_⟩
theorem impl_exprFold.mono_l : ∀ k, (∀ y0 y1 y2, LeO (impl_exprFold.f k y0 y1 y2) (impl_exprFold.f (k + 1) y0 y1 y2)) ∧ (∀ y0 y1 y2 y3 y4 y5 y6 y7 y8 y9, LeO (impl_exprFold.j0 k y0 y1 y2 y3 y4 y5 y6 y7 y8 y9) (impl_exprFold.j0 (k + 1) y0 y1 y2 y3 y4 y5 y6 y7 y8 y9))
 | 0 => ⟨fun _ _ _ r h => by simp [impl_exprFold.f] at h, fun _ _ _ _ _ _ _ _ _ _ r h => by simp [impl_exprFold.j0] at h⟩
 | k + 1 => by
  obtain ⟨ih0, ih1⟩ := impl_exprFold.mono_l k
  refine ⟨?_, ?_⟩
  ·intro y0 y1 y2
   unfold impl_exprFold.f
   repeat' first
   | (with_reducible exact ih0 _ _ _)
   | (with_reducible exact ih1 _ _ _ _ _ _ _ _ _ _)
   | (with_reducible exact LeO.refl _)
   | (with_reducible exact LeO.none _)
   | (with_reducible refine LeO.ite ?_ ?_)
   | (with_reducible refine LeO.bind ?_ (fun _ => ?_))
  ·intro y0 y1 y2 y3 y4 y5 y6 y7 y8 y9
   unfold impl_exprFold.j0
   repeat' first
   | (with_reducible exact ih0 _ _ _)
   | (with_reducible exact ih1 _ _ _ _ _ _ _ _ _ _)
   | (with_reducible exact LeO.refl _)
   | (with_reducible exact LeO.none _)
   | (with_reducible refine LeO.ite ?_ ?_)
   | (with_reducible refine LeO.bind ?_ (fun _ => ?_))
theorem impl_exprFold.mono : ∀ a0 a1 a2 k, LeO (impl_exprFold.f k a0 a1 a2) (impl_exprFold.f (k + 1) a0 a1 a2) := by
 intro a0 a1 a2 k
 obtain ⟨ih0, ih1⟩ := impl_exprFold.mono_l k
 exact ih0 a0 a1 a2
def impl_exprFold.T3 : Bool × List (List Nat × List Nat) := (true, [([], []), ([0], [0]), ([1], [1]), ([2], [2]), ([3], [3]), ([], []), ([5], [5]), ([6], [6]), ([7], [7]), ([8, 4], [8]), ([], []), ([], []), ([10, 4, 9, 0, 1, 2, 3, 4, 10, 11], [4, 10]), ([11, 9, 12, 0, 1, 2, 3, 4, 5, 6, 7, 8, 9, 10, 11, 12], [9, 11])])
def impl_exprFold.B3 : List Nat := [0, 1, 3, 7, 15, 0, 32, 96, 224, 511, 0, 0, 4095, 8191]
theorem impl_exprFold.tab3 : rtab .any (opsOf Try.f78 3) = impl_exprFold.T3 := by kernel_rfl
theorem impl_exprFold.bits3 : waitsOk impl_exprFold.T3.2 impl_exprFold.B3 = true := by kernel_rfl
theorem impl_exprFold.calls (k : Nat) : ∀ (a0_0 : Int) (a0_1 : Int) (A0_2 : Option Addr) (c0_2 : Nat) (l0_2 : List (S32)) (r1 : Int) (r2 : Int) (r3 : List (S32)) (w : World) (hr0_2 : Kd.C k32 w A0_2 l0_2.length l0_2) (hc0_2 : l0_2.length ≤ c0_2) (h : impl_exprFold.f k a0_0 a0_1 l0_2 = some (r1, r2, r3)),
  Calls Try.prog 78 #[.agg #[.int .i64 a0_0, .int .i64 a0_1, .slice A0_2 l0_2.length c0_2]] w fun e w' => ∃ v2_ : Value, e = .returned (.agg #[.int .i64 r1, .int .i64 r2, v2_]) ∧ Kd.N k32 32 w' w.heap.size (fun k_ => (w.heap.size ≤ k_)) v2_ r3 ∧ Below w.heap.size w w' := by
 induction k using Nat.strongRecOn with
 | _ k ih =>
 intro a0_0 a0_1 A0_2 c0_2 l0_2 r1 r2 r3 w hr0_2 hc0_2 h
 cases k with
 | zero => exact absurd h (by simp [impl_exprFold.f])
 | succ k =>
 simp only [impl_exprFold.f] at h
 have hu32 := Try.underlying32
 have HR0_2 := am hr0_2
 have HC0_2 := am hc0_2
 clear hr0_2 hc0_2
 have HB := am (Below.refl w.heap.size w)
 have H : (if (l0_2.length : Int) = 0 then (some (a0_0, a0_1, ([] : List (S32)))) else (if 0 < (l0_2.length : Int) then ((impl_exprFold.f k ((rd_T32 l0_2 0).f0) ((rd_T32 l0_2 0).f1) ((rd_T32 l0_2 0).f2)).bind fun bt529 => (if 1 < (l0_2.length : Int) then ((impl_exprFold.f k ((rd_T32 l0_2 1).f0) ((rd_T32 l0_2 1).f1) ((rd_T32 l0_2 1).f2)).bind fun bt535 => (if bt529.1 = 0 then (impl_exprFold.j0 k (bt535.1 == 0) a0_0 a0_1 l0_2 bt529.1 bt529.2.1 bt529.2.2 bt535.1 bt535.2.1 bt535.2.2) else (impl_exprFold.j0 k false a0_0 a0_1 l0_2 bt529.1 bt529.2.1 bt529.2.2 bt535.1 bt535.2.1 bt535.2.2))) else (none))) else (none))) = some (r1, r2, r3) := h
 clear h
 have HH_ := am H
 clear H
 go_enter Try.func78, Try.ntmps78
 go_upto_region 1 with (first | ((with_reducible refine gate_dst (N := 1) rfl ?_); refine box_event rfl (N := 1) rfl (cs := #[.int .i64 a0_0, .int .i64 a0_1, .slice A0_2 l0_2.length c0_2]) (t := 32) rn_ ?_; intro gb526 hg w3 hbox hb; have BK526 := am (hbox); have GW526 := am ((by rw [hg]; exact (below_size ab2_) : w.heap.size ≤ gb526)); have GE526 := am ((by rw [hg]; exact (below_size ab2_) : w.heap.size ≤ gb526)); replace HB := am (below_step ab2_ hb); clear hb hbox hg) | ((with_reducible refine gate_dst (N := 2) rfl ?_); refine box_event rfl (N := 2) rfl (cs := #[.int .i64 0, .int .i64 0, .slice none 0 0]) (t := 32) rn_ ?_; intro gb527 hg w4 hbox hb; have BK527 := am (hbox); have GW527 := am ((by rw [hg]; exact (below_size ab71_) : w.heap.size ≤ gb527)); have GE527 := am ((by rw [hg]; exact (below_size ab71_) : w.heap.size ≤ gb527)); replace HB := am (below_step ab71_ hb); have NB526_527 := am ((by rw [hg]; exact Nat.ne_of_lt (blt_ BK526.out) : gb526 ≠ gb527)); have NB527_526 := am ((by rw [hg]; exact Nat.ne_of_gt (blt_ BK526.out) : gb527 ≠ gb526)); replace BK526 := am (bbl_ BK526.out hb); clear hb hbox hg; have hnb5 := NB526_527.out; have hnc5 := NB527_526.out; obtain ⟨hcz6_0, hcz6_1, hcz6_2, hfz6_0, hfz6_1, hfz6_2⟩ := bcf3_ BK526.out))
 have H := HH_.out
 clear HH_
 by_cases c2 : (l0_2.length : Int) = 0
 ·rw [if_pos c2] at H
  have c2b0 : ((l0_2.length : Int) == 0) = true := beq_iff_eq.mpr c2
  have c2b1 : ((l0_2.length : Int) != 0) = false := bne_eq_false_iff_eq.mpr c2
  clear c2
  simp only [Option.some.injEq, Prod.mk.injEq] at H
  obtain ⟨rfl, rfl, rfl⟩ := H
  obtain ⟨hcz7_0, hcz7_1, hcz7_2, hfz7_0, hfz7_1, hfz7_2⟩ := bcf3_ BK527.out
  go_wp2
  refine bodyPost_ret (results_cell_row rfl _ _ gb527 32 #[.int .i64 a0_0, .int .i64 a0_1, .slice none 0 0] (0, 0) _ rfl (blk_put (blk_put (blk_put BK527.out 0 _ rfl) 1 _ rfl) 2 _ rfl) Try.underlying32 rfl (by kernel_rfl)) rfl ?_
  exact ⟨_, ab11_, by first | exact Kd.R_nil _ _ _ _ _ | exact Kd.N_nil _ _ _ _ _ | exact Kd.V_nil _ _ _ _ _ | exact Kd.Q_nil _ _ _ _ _ | exact Kd.S_nil _ _ _ _ _, ab12_⟩
 rw [if_neg c2] at H
 have c2b0 : ((l0_2.length : Int) == 0) = false := beq_eq_false_iff_ne.mpr c2
 have c2b1 : ((l0_2.length : Int) != 0) = true := bne_iff_ne.mpr c2
 have c2b2 : ¬ (l0_2 = []) := fun h_ => c2 (by rw [h_]; rfl)
 by_cases c8 : 0 < (l0_2.length : Int)
 ·rw [if_pos c8] at H
  have c8b0 : decide (0 < (l0_2.length : Int)) = true := decide_eq_true c8
  have c8b1 : decide (0 < l0_2.length) = true := decide_eq_true (by omega)
  clear c8
  obtain ⟨⟨t529, t530, t531⟩, A90, H⟩ := bsm H
  (try dsimp only at H)
  have A9 := am A90
  clear A90
  by_cases c10 : 1 < (l0_2.length : Int)
  ·rw [if_pos c10] at H
   have c10b0 : decide (1 < (l0_2.length : Int)) = true := decide_eq_true c10
   have c10b1 : decide (1 < l0_2.length) = true := decide_eq_true (by omega)
   clear c10
   obtain ⟨⟨t535, t536, t537⟩, A110, H⟩ := bsm H
   (try dsimp only at H)
   have A11 := am A110
   clear A110
   have HC12 := am H
   clear H
   try go_wp2
   replace BK526 := am (blk_drew BK526.out)
   replace BK527 := am (blk_drew BK527.out)
   replace HB := am (below_drew1 HB.out)
   have p528 : 0 ≤ (0 : Int) := (by omega)
   have q528 : 0 < (l0_2.length : Int) := of_decide_eq_true asm_
   obtain ⟨ad528, A528_2, c528_2, e528, hx528_0, hx528_1, hx528_2, hl528_2, hi528_2⟩ := at_T32 HR0_2.out 0 p528 q528
   have hw528_2 := hx528_2
   (try rw [show ((0 : Int)).toNat = 0 from rfl] at hw528_2)
   (try rw [show 0 * 3 = 0 from rfl] at hw528_2)
   (try rw [Addr.add_zero'] at hw528_2)
   have hw528_1 := hx528_1
   (try rw [show ((0 : Int)).toNat = 0 from rfl] at hw528_1)
   (try rw [show 0 * 3 = 0 from rfl] at hw528_1)
   (try rw [Addr.add_zero'] at hw528_1)
   have hw528_0 := hx528_0
   (try rw [show ((0 : Int)).toNat = 0 from rfl] at hw528_0)
   (try rw [show 0 * 3 = 0 from rfl] at hw528_0)
   (try rw [Addr.add_zero'] at hw528_0)
   cases e528
   have qi528 : (0 < l0_2.length) = True := eq_true (by omega)
   (try rw [show ((0 : Int)).toNat = 0 from rfl] at hx528_0)
   (try rw [show 0 * 3 = 0 from rfl] at hx528_0)
   (try rw [Addr.add_zero'] at hx528_0)
   (try rw [show ((0 : Int)).toNat = 0 from rfl] at hx528_1)
   (try rw [show 0 * 3 = 0 from rfl] at hx528_1)
   (try rw [Addr.add_zero'] at hx528_1)
   (try rw [show ((0 : Int)).toNat = 0 from rfl] at hx528_2)
   (try rw [show 0 * 3 = 0 from rfl] at hx528_2)
   (try rw [Addr.add_zero'] at hx528_2)
   replace hx528_0 := (HB.out.cell (World.block_lt_of_cell? w _ hx528_0)).trans hx528_0
   replace hx528_1 := (HB.out.cell (World.block_lt_of_cell? w _ hx528_1)).trans hx528_1
   replace hx528_2 := (HB.out.cell (World.block_lt_of_cell? w _ hx528_2)).trans hx528_2
   have HR528_2 := am hi528_2
   have HC528_2 := am hl528_2
   clear hi528_2 hl528_2
   replace p528 := eq_true p528
   replace q528 := eq_true q528
   have p534 : 0 ≤ (1 : Int) := (by omega)
   have q534 : 1 < (l0_2.length : Int) := of_decide_eq_true asm_
   obtain ⟨ad534, A534_2, c534_2, e534, hx534_0, hx534_1, hx534_2, hl534_2, hi534_2⟩ := at_T32 HR0_2.out 1 p534 q534
   have hw534_2 := hx534_2
   (try rw [show ((1 : Int)).toNat = 1 from rfl] at hw534_2)
   (try rw [show 1 * 3 = 3 from rfl] at hw534_2)
   (try simp only [Nat.reduceMul, Nat.reduceEqDiff, Go.Addr.add, ↓reduceIte] at hw534_2)
   have hw534_1 := hx534_1
   (try rw [show ((1 : Int)).toNat = 1 from rfl] at hw534_1)
   (try rw [show 1 * 3 = 3 from rfl] at hw534_1)
   (try simp only [Nat.reduceMul, Nat.reduceEqDiff, Go.Addr.add, ↓reduceIte] at hw534_1)
   have hw534_0 := hx534_0
   (try rw [show ((1 : Int)).toNat = 1 from rfl] at hw534_0)
   (try rw [show 1 * 3 = 3 from rfl] at hw534_0)
   (try simp only [Nat.reduceMul, Nat.reduceEqDiff, Go.Addr.add, ↓reduceIte] at hw534_0)
   obtain rfl : ad528 = ad534 := (by injection e534)
   (try simp only [show (1 : Int).toNat = 1 from rfl, Nat.reduceMul, Nat.reduceEqDiff, Go.Addr.add, ↓reduceIte] at hx534_0)
   (try simp only [show (1 : Int).toNat = 1 from rfl, Nat.reduceMul, Nat.reduceEqDiff, Go.Addr.add, ↓reduceIte] at hx534_1)
   (try simp only [show (1 : Int).toNat = 1 from rfl, Nat.reduceMul, Nat.reduceEqDiff, Go.Addr.add, ↓reduceIte] at hx534_2)
   have qi534 : (1 < l0_2.length) = True := eq_true (by omega)
   (try rw [show ((1 : Int)).toNat = 1 from rfl] at hx534_0)
   (try rw [show 1 * 3 = 3 from rfl] at hx534_0)
   (try rw [show ((1 : Int)).toNat = 1 from rfl] at hx534_1)
   (try rw [show 1 * 3 = 3 from rfl] at hx534_1)
   (try rw [show ((1 : Int)).toNat = 1 from rfl] at hx534_2)
   (try rw [show 1 * 3 = 3 from rfl] at hx534_2)
   replace hx534_0 := (HB.out.cell (World.block_lt_of_cell? w _ hx534_0)).trans hx534_0
   replace hx534_1 := (HB.out.cell (World.block_lt_of_cell? w _ hx534_1)).trans hx534_1
   replace hx534_2 := (HB.out.cell (World.block_lt_of_cell? w _ hx534_2)).trans hx534_2
   have HR534_2 := am hi534_2
   have HC534_2 := am hl534_2
   clear hi534_2 hl534_2
   replace p534 := eq_true p534
   replace q534 := eq_true q534
   have hS0_ : ∀ w' : World, w'.heap[gb526]? = some (.cells #[.int .i64 a0_0, .int .i64 a0_1, .slice (some ad528) l0_2.length c0_2] 32 (0, 0)) → Below w.heap.size w w' → (w'.cell? ⟨gb526, 0, none⟩ = some (.int .i64 a0_0) ∧ w'.cell? ⟨gb526, 1, none⟩ = some (.int .i64 a0_1) ∧ w'.cell? ⟨gb526, 2, none⟩ = some (.slice (some ad528) l0_2.length c0_2) ∧ w'.cell? ad528 = some (.int .i64 ((rd_T32 l0_2 0).f0)) ∧ w'.cell? ⟨ad528.block, ad528.off + 1, none⟩ = some (.int .i64 ((rd_T32 l0_2 0).f1)) ∧ w'.cell? ⟨ad528.block, ad528.off + 2, none⟩ = some (.slice A528_2 ((rd_T32 l0_2 0).f2).length c528_2) ∧ w'.cell? ⟨ad528.block, ad528.off + 3, none⟩ = some (.int .i64 ((rd_T32 l0_2 1).f0)) ∧ w'.cell? ⟨ad528.block, ad528.off + 3 + 1, none⟩ = some (.int .i64 ((rd_T32 l0_2 1).f1)) ∧ w'.cell? ⟨ad528.block, ad528.off + 3 + 2, none⟩ = some (.slice A534_2 ((rd_T32 l0_2 1).f2).length c534_2)) := fun w' b_ h_ => ⟨(blk_cell b_ 0).trans rfl, (blk_cell b_ 1).trans rfl, (blk_cell b_ 2).trans rfl, ((h_.cell (World.block_lt_of_cell? w _ hw528_0)).trans hw528_0), ((h_.cell (World.block_lt_of_cell? w _ hw528_1)).trans hw528_1), ((h_.cell (World.block_lt_of_cell? w _ hw528_2)).trans hw528_2), ((h_.cell (World.block_lt_of_cell? w _ hw534_0)).trans hw534_0), ((h_.cell (World.block_lt_of_cell? w _ hw534_1)).trans hw534_1), ((h_.cell (World.block_lt_of_cell? w _ hw534_2)).trans hw534_2)⟩
   refine start_ (n := 14) (S := fun w' => w'.cell? ⟨gb526, 0, none⟩ = some (.int .i64 a0_0) ∧ w'.cell? ⟨gb526, 1, none⟩ = some (.int .i64 a0_1) ∧ w'.cell? ⟨gb526, 2, none⟩ = some (.slice (some ad528) l0_2.length c0_2) ∧ w'.cell? ad528 = some (.int .i64 ((rd_T32 l0_2 0).f0)) ∧ w'.cell? ⟨ad528.block, ad528.off + 1, none⟩ = some (.int .i64 ((rd_T32 l0_2 0).f1)) ∧ w'.cell? ⟨ad528.block, ad528.off + 2, none⟩ = some (.slice A528_2 ((rd_T32 l0_2 0).f2).length c528_2) ∧ w'.cell? ⟨ad528.block, ad528.off + 3, none⟩ = some (.int .i64 ((rd_T32 l0_2 1).f0)) ∧ w'.cell? ⟨ad528.block, ad528.off + 3 + 1, none⟩ = some (.int .i64 ((rd_T32 l0_2 1).f1)) ∧ w'.cell? ⟨ad528.block, ad528.off + 3 + 2, none⟩ = some (.slice A534_2 ((rd_T32 l0_2 1).f2).length c534_2)) (ds := []) #[false, false, false, false, false, false, false, false, false, false, false, false, false, false] (by kernel_rfl) rfl rfl (hS0_ _ BK526.out HB.out) (fun hHeld => ?_); refine with_tabW impl_exprFold.tab3 impl_exprFold.bits3 (fun HT_ HW_ => ?_)
   generalize w4.drew = w17 at BK526 BK527 HB HR528_2 HR534_2 hx528_0 hx528_1 hx528_2 hx534_0 hx534_1 hx534_2 hHeld ⊢
   refine pure_ (i := 0) (N := some 15) (v := ?_) (a' := ?_) #[true, false, false, false, false, false, false, false, false, false, false, false, false, false] rfl rfl (any_of HT_.out (by kernel_rfl)) (fun _ _ _ h => h) (Or.inl ⟨by rfl, ?_⟩) ?_ ?_
   rotate_left
   ·intro w'
    go_simp
    with_reducible rfl
   rotate_left
   ·simp only [Act.put, List.setIfInBounds_toArray, List.set_cons_zero, List.set_cons_succ, i64_w, i32_w]
    rfl
   refine pure_ (i := 5) (N := some 20) (v := ?_) (a' := ?_) #[true, false, false, false, false, true, false, false, false, false, false, false, false, false] rfl rfl (any_of HT_.out (by kernel_rfl)) (fun _ _ _ h => h) (Or.inl ⟨by rfl, ?_⟩) ?_ ?_
   rotate_left
   ·intro w'
    go_simp
    with_reducible rfl
   rotate_left
   ·simp only [Act.put, List.setIfInBounds_toArray, List.set_cons_zero, List.set_cons_succ, i64_w, i32_w]
    rfl
   refine take_ (i := 1) (N := some 16) (v := ?_) (a' := ?_) #[true, true, false, false, false, true, false, false, false, false, false, false, false, false] rfl rfl (take_ofW HT_.out HW_.out (by kernel_rfl)) (fun _ _ _ h => h) (Or.inl ⟨by rfl, ?_⟩) hHeld ?_ ?_
   rotate_left
   ·rintro w' ⟨s0, s1, s2, s3, s4, s5, s6, s7, s8⟩
    go_simp
    with_reducible rfl
   rotate_left
   ·simp only [Act.put, List.setIfInBounds_toArray, List.set_cons_zero, List.set_cons_succ, i64_w, i32_w]
    rfl
   refine pure_ (i := 2) (N := some 17) (v := ?_) (a' := ?_) #[true, true, true, false, false, true, false, false, false, false, false, false, false, false] rfl rfl (any_of HT_.out (by kernel_rfl)) (fun _ _ _ h => h) (Or.inl ⟨by rfl, ?_⟩) ?_ ?_
   rotate_left
   ·intro w'
    go_simp
    with_reducible rfl
   rotate_left
   ·simp only [Act.put, List.setIfInBounds_toArray, List.set_cons_zero, List.set_cons_succ, i64_w, i32_w]
    rfl
   refine take_ (i := 3) (N := some 18) (v := ?_) (a' := ?_) #[true, true, true, true, false, true, false, false, false, false, false, false, false, false] rfl rfl (take_ofW HT_.out HW_.out (by kernel_rfl)) (fun _ _ _ h => h) (Or.inl ⟨by rfl, ?_⟩) hHeld ?_ ?_
   rotate_left
   ·rintro w' ⟨s0, s1, s2, s3, s4, s5, s6, s7, s8⟩
    go_simp
    with_reducible rfl
   rotate_left
   ·simp only [Act.put, List.setIfInBounds_toArray, List.set_cons_zero, List.set_cons_succ, i64_w, i32_w]
    rfl
   refine take_ (i := 6) (N := some 21) (v := ?_) (a' := ?_) #[true, true, true, true, false, true, true, false, false, false, false, false, false, false] rfl rfl (take_ofW HT_.out HW_.out (by kernel_rfl)) (fun _ _ _ h => h) (Or.inl ⟨by rfl, ?_⟩) hHeld ?_ ?_
   rotate_left
   ·rintro w' ⟨s0, s1, s2, s3, s4, s5, s6, s7, s8⟩
    go_simp
    with_reducible rfl
   rotate_left
   ·simp only [Act.put, List.setIfInBounds_toArray, List.set_cons_zero, List.set_cons_succ, i64_w, i32_w]
    rfl
   refine pure_ (i := 7) (N := some 22) (v := ?_) (a' := ?_) #[true, true, true, true, false, true, true, true, false, false, false, false, false, false] rfl rfl (any_of HT_.out (by kernel_rfl)) (fun _ _ _ h => h) (Or.inl ⟨by rfl, ?_⟩) ?_ ?_
   rotate_left
   ·intro w'
    go_simp
    with_reducible rfl
   rotate_left
   ·simp only [Act.put, List.setIfInBounds_toArray, List.set_cons_zero, List.set_cons_succ, i64_w, i32_w]
    rfl
   refine take_ (i := 8) (N := some 23) (v := ?_) (a' := ?_) #[true, true, true, true, false, true, true, true, true, false, false, false, false, false] rfl rfl (take_ofW HT_.out HW_.out (by kernel_rfl)) (fun _ _ _ h => h) (Or.inl ⟨by rfl, ?_⟩) hHeld ?_ ?_
   rotate_left
   ·rintro w' ⟨s0, s1, s2, s3, s4, s5, s6, s7, s8⟩
    go_simp
    with_reducible rfl
   rotate_left
   ·simp only [Act.put, List.setIfInBounds_toArray, List.set_cons_zero, List.set_cons_succ, i64_w, i32_w]
    rfl
   refine join_ (σ := Value × Value × Nat × Nat) 2 #[true, true, true, true, true, true, true, true, true, true, true, true, false, false] (fun s_ => [(19, .agg #[.int .i64 t529, .int .i64 t530, s_.1]), (24, .agg #[.int .i64 t535, .int .i64 t536, s_.2.1]), (3, .pointer (some ⟨s_.2.2.1, 0, none⟩)), (4, .pointer (some ⟨s_.2.2.2, 0, none⟩))]) (fun s_ w' => (w'.cell? ⟨gb526, 0, none⟩ = some (.int .i64 a0_0) ∧ w'.cell? ⟨gb526, 1, none⟩ = some (.int .i64 a0_1) ∧ w'.cell? ⟨gb526, 2, none⟩ = some (.slice (some ad528) l0_2.length c0_2) ∧ w'.cell? ad528 = some (.int .i64 ((rd_T32 l0_2 0).f0)) ∧ w'.cell? ⟨ad528.block, ad528.off + 1, none⟩ = some (.int .i64 ((rd_T32 l0_2 0).f1)) ∧ w'.cell? ⟨ad528.block, ad528.off + 2, none⟩ = some (.slice A528_2 ((rd_T32 l0_2 0).f2).length c528_2) ∧ w'.cell? ⟨ad528.block, ad528.off + 3, none⟩ = some (.int .i64 ((rd_T32 l0_2 1).f0)) ∧ w'.cell? ⟨ad528.block, ad528.off + 3 + 1, none⟩ = some (.int .i64 ((rd_T32 l0_2 1).f1)) ∧ w'.cell? ⟨ad528.block, ad528.off + 3 + 2, none⟩ = some (.slice A534_2 ((rd_T32 l0_2 1).f2).length c534_2)) ∧ (Kd.N k32 32 w' w.heap.size (fun k_ => (w.heap.size ≤ k_) ∧ some k_ ≠ (s_.2.1 : Value).ownBlock ∧ k_ ≠ gb526 ∧ k_ ≠ gb527 ∧ k_ ≠ s_.2.2.1 ∧ k_ ≠ s_.2.2.2) s_.1 t531) ∧ (Kd.N k32 32 w' w.heap.size (fun k_ => (w.heap.size ≤ k_) ∧ some k_ ≠ (s_.1 : Value).ownBlock ∧ k_ ≠ gb526 ∧ k_ ≠ gb527 ∧ k_ ≠ s_.2.2.1 ∧ k_ ≠ s_.2.2.2) s_.2.1 t537) ∧ (w'.heap[gb526]? = some (.cells #[.int .i64 a0_0, .int .i64 a0_1, .slice (some ad528) l0_2.length c0_2] 32 (0, 0))) ∧ (w'.heap[gb527]? = some (.cells #[.int .i64 0, .int .i64 0, .slice none 0 0] 32 (0, 0))) ∧ (w'.heap[s_.2.2.1]? = some (.cells #[.int .i64 0, .int .i64 0, .slice none 0 0] 32 (0, 0))) ∧ (w'.heap[s_.2.2.2]? = some (.cells #[.int .i64 0, .int .i64 0, .slice none 0 0] 32 (0, 0))) ∧ (w.heap.size ≤ s_.2.2.1) ∧ (w.heap.size ≤ s_.2.2.1) ∧ (gb526 ≠ s_.2.2.1) ∧ (s_.2.2.1 ≠ gb526) ∧ (gb527 ≠ s_.2.2.1) ∧ (s_.2.2.1 ≠ gb527) ∧ (s_.2.2.2 ≠ s_.2.2.1) ∧ (s_.2.2.1 ≠ s_.2.2.2) ∧ (w.heap.size ≤ s_.2.2.2) ∧ (w.heap.size ≤ s_.2.2.2) ∧ (gb526 ≠ s_.2.2.2) ∧ (s_.2.2.2 ≠ gb526) ∧ (gb527 ≠ s_.2.2.2) ∧ (s_.2.2.2 ≠ gb527) ∧ (Below w.heap.size w w')) ?_ ?_
   rotate_left
   ·intro hJ4_9_10_11
    refine join_ (σ := Value × Value × Nat) 3 #[true, true, true, true, true, true, true, true, true, true, true, false, false, false] (fun s_ => [(19, .agg #[.int .i64 t529, .int .i64 t530, s_.1]), (24, .agg #[.int .i64 t535, .int .i64 t536, s_.2.1]), (3, .pointer (some ⟨s_.2.2, 0, none⟩))]) (fun s_ w' => (w'.cell? ⟨gb526, 0, none⟩ = some (.int .i64 a0_0) ∧ w'.cell? ⟨gb526, 1, none⟩ = some (.int .i64 a0_1) ∧ w'.cell? ⟨gb526, 2, none⟩ = some (.slice (some ad528) l0_2.length c0_2) ∧ w'.cell? ad528 = some (.int .i64 ((rd_T32 l0_2 0).f0)) ∧ w'.cell? ⟨ad528.block, ad528.off + 1, none⟩ = some (.int .i64 ((rd_T32 l0_2 0).f1)) ∧ w'.cell? ⟨ad528.block, ad528.off + 2, none⟩ = some (.slice A528_2 ((rd_T32 l0_2 0).f2).length c528_2) ∧ w'.cell? ⟨ad528.block, ad528.off + 3, none⟩ = some (.int .i64 ((rd_T32 l0_2 1).f0)) ∧ w'.cell? ⟨ad528.block, ad528.off + 3 + 1, none⟩ = some (.int .i64 ((rd_T32 l0_2 1).f1)) ∧ w'.cell? ⟨ad528.block, ad528.off + 3 + 2, none⟩ = some (.slice A534_2 ((rd_T32 l0_2 1).f2).length c534_2)) ∧ (Kd.N k32 32 w' w.heap.size (fun k_ => (w.heap.size ≤ k_) ∧ some k_ ≠ (s_.2.1 : Value).ownBlock ∧ k_ ≠ gb526 ∧ k_ ≠ gb527 ∧ k_ ≠ s_.2.2) s_.1 t531) ∧ (Kd.N k32 32 w' w.heap.size (fun k_ => (w.heap.size ≤ k_) ∧ some k_ ≠ (s_.1 : Value).ownBlock ∧ k_ ≠ gb526 ∧ k_ ≠ gb527 ∧ k_ ≠ s_.2.2) s_.2.1 t537) ∧ (w'.heap[gb526]? = some (.cells #[.int .i64 a0_0, .int .i64 a0_1, .slice (some ad528) l0_2.length c0_2] 32 (0, 0))) ∧ (w'.heap[gb527]? = some (.cells #[.int .i64 0, .int .i64 0, .slice none 0 0] 32 (0, 0))) ∧ (w'.heap[s_.2.2]? = some (.cells #[.int .i64 0, .int .i64 0, .slice none 0 0] 32 (0, 0))) ∧ (w.heap.size ≤ s_.2.2) ∧ (w.heap.size ≤ s_.2.2) ∧ (gb526 ≠ s_.2.2) ∧ (s_.2.2 ≠ gb526) ∧ (gb527 ≠ s_.2.2) ∧ (s_.2.2 ≠ gb527) ∧ (Below w.heap.size w w')) ?_ ?_
    rotate_left
    ·intro hJ4_9_10
     refine join_ (σ := Value × Value × Nat) 3 #[true, true, true, true, true, true, true, true, true, true, false, true, false, false] (fun s_ => [(19, .agg #[.int .i64 t529, .int .i64 t530, s_.1]), (24, .agg #[.int .i64 t535, .int .i64 t536, s_.2.1]), (4, .pointer (some ⟨s_.2.2, 0, none⟩))]) (fun s_ w' => (w'.cell? ⟨gb526, 0, none⟩ = some (.int .i64 a0_0) ∧ w'.cell? ⟨gb526, 1, none⟩ = some (.int .i64 a0_1) ∧ w'.cell? ⟨gb526, 2, none⟩ = some (.slice (some ad528) l0_2.length c0_2) ∧ w'.cell? ad528 = some (.int .i64 ((rd_T32 l0_2 0).f0)) ∧ w'.cell? ⟨ad528.block, ad528.off + 1, none⟩ = some (.int .i64 ((rd_T32 l0_2 0).f1)) ∧ w'.cell? ⟨ad528.block, ad528.off + 2, none⟩ = some (.slice A528_2 ((rd_T32 l0_2 0).f2).length c528_2) ∧ w'.cell? ⟨ad528.block, ad528.off + 3, none⟩ = some (.int .i64 ((rd_T32 l0_2 1).f0)) ∧ w'.cell? ⟨ad528.block, ad528.off + 3 + 1, none⟩ = some (.int .i64 ((rd_T32 l0_2 1).f1)) ∧ w'.cell? ⟨ad528.block, ad528.off + 3 + 2, none⟩ = some (.slice A534_2 ((rd_T32 l0_2 1).f2).length c534_2)) ∧ (Kd.N k32 32 w' w.heap.size (fun k_ => (w.heap.size ≤ k_) ∧ some k_ ≠ (s_.2.1 : Value).ownBlock ∧ k_ ≠ gb526 ∧ k_ ≠ gb527 ∧ k_ ≠ s_.2.2) s_.1 t531) ∧ (Kd.N k32 32 w' w.heap.size (fun k_ => (w.heap.size ≤ k_) ∧ some k_ ≠ (s_.1 : Value).ownBlock ∧ k_ ≠ gb526 ∧ k_ ≠ gb527 ∧ k_ ≠ s_.2.2) s_.2.1 t537) ∧ (w'.heap[gb526]? = some (.cells #[.int .i64 a0_0, .int .i64 a0_1, .slice (some ad528) l0_2.length c0_2] 32 (0, 0))) ∧ (w'.heap[gb527]? = some (.cells #[.int .i64 0, .int .i64 0, .slice none 0 0] 32 (0, 0))) ∧ (w'.heap[s_.2.2]? = some (.cells #[.int .i64 0, .int .i64 0, .slice none 0 0] 32 (0, 0))) ∧ (w.heap.size ≤ s_.2.2) ∧ (w.heap.size ≤ s_.2.2) ∧ (gb526 ≠ s_.2.2) ∧ (s_.2.2 ≠ gb526) ∧ (gb527 ≠ s_.2.2) ∧ (s_.2.2 ≠ gb527) ∧ (Below w.heap.size w w')) ?_ ?_
     rotate_left
     ·intro hJ4_9_11
      refine join_ (σ := Value × Nat × Nat) 3 #[true, true, true, true, true, true, true, true, true, false, true, true, false, false] (fun s_ => [(19, .agg #[.int .i64 t529, .int .i64 t530, s_.1]), (3, .pointer (some ⟨s_.2.1, 0, none⟩)), (4, .pointer (some ⟨s_.2.2, 0, none⟩))]) (fun s_ w' => (w'.cell? ⟨gb526, 0, none⟩ = some (.int .i64 a0_0) ∧ w'.cell? ⟨gb526, 1, none⟩ = some (.int .i64 a0_1) ∧ w'.cell? ⟨gb526, 2, none⟩ = some (.slice (some ad528) l0_2.length c0_2) ∧ w'.cell? ad528 = some (.int .i64 ((rd_T32 l0_2 0).f0)) ∧ w'.cell? ⟨ad528.block, ad528.off + 1, none⟩ = some (.int .i64 ((rd_T32 l0_2 0).f1)) ∧ w'.cell? ⟨ad528.block, ad528.off + 2, none⟩ = some (.slice A528_2 ((rd_T32 l0_2 0).f2).length c528_2) ∧ w'.cell? ⟨ad528.block, ad528.off + 3, none⟩ = some (.int .i64 ((rd_T32 l0_2 1).f0)) ∧ w'.cell? ⟨ad528.block, ad528.off + 3 + 1, none⟩ = some (.int .i64 ((rd_T32 l0_2 1).f1)) ∧ w'.cell? ⟨ad528.block, ad528.off + 3 + 2, none⟩ = some (.slice A534_2 ((rd_T32 l0_2 1).f2).length c534_2)) ∧ (Kd.N k32 32 w' w.heap.size (fun k_ => (w.heap.size ≤ k_) ∧ k_ ≠ gb526 ∧ k_ ≠ gb527 ∧ k_ ≠ s_.2.1 ∧ k_ ≠ s_.2.2) s_.1 t531) ∧ (w'.heap[gb526]? = some (.cells #[.int .i64 a0_0, .int .i64 a0_1, .slice (some ad528) l0_2.length c0_2] 32 (0, 0))) ∧ (w'.heap[gb527]? = some (.cells #[.int .i64 0, .int .i64 0, .slice none 0 0] 32 (0, 0))) ∧ (w'.heap[s_.2.1]? = some (.cells #[.int .i64 0, .int .i64 0, .slice none 0 0] 32 (0, 0))) ∧ (w'.heap[s_.2.2]? = some (.cells #[.int .i64 0, .int .i64 0, .slice none 0 0] 32 (0, 0))) ∧ (w.heap.size ≤ s_.2.1) ∧ (w.heap.size ≤ s_.2.1) ∧ (gb526 ≠ s_.2.1) ∧ (s_.2.1 ≠ gb526) ∧ (gb527 ≠ s_.2.1) ∧ (s_.2.1 ≠ gb527) ∧ (s_.2.2 ≠ s_.2.1) ∧ (s_.2.1 ≠ s_.2.2) ∧ (w.heap.size ≤ s_.2.2) ∧ (w.heap.size ≤ s_.2.2) ∧ (gb526 ≠ s_.2.2) ∧ (s_.2.2 ≠ gb526) ∧ (gb527 ≠ s_.2.2) ∧ (s_.2.2 ≠ gb527) ∧ (Below w.heap.size w w')) ?_ ?_
      rotate_left
      ·intro hJ4_10_11
       refine join_ (σ := Value × Value) 4 #[true, true, true, true, true, true, true, true, true, true, false, false, false, false] (fun s_ => [(19, .agg #[.int .i64 t529, .int .i64 t530, s_.1]), (24, .agg #[.int .i64 t535, .int .i64 t536, s_.2])]) (fun s_ w' => (w'.cell? ⟨gb526, 0, none⟩ = some (.int .i64 a0_0) ∧ w'.cell? ⟨gb526, 1, none⟩ = some (.int .i64 a0_1) ∧ w'.cell? ⟨gb526, 2, none⟩ = some (.slice (some ad528) l0_2.length c0_2) ∧ w'.cell? ad528 = some (.int .i64 ((rd_T32 l0_2 0).f0)) ∧ w'.cell? ⟨ad528.block, ad528.off + 1, none⟩ = some (.int .i64 ((rd_T32 l0_2 0).f1)) ∧ w'.cell? ⟨ad528.block, ad528.off + 2, none⟩ = some (.slice A528_2 ((rd_T32 l0_2 0).f2).length c528_2) ∧ w'.cell? ⟨ad528.block, ad528.off + 3, none⟩ = some (.int .i64 ((rd_T32 l0_2 1).f0)) ∧ w'.cell? ⟨ad528.block, ad528.off + 3 + 1, none⟩ = some (.int .i64 ((rd_T32 l0_2 1).f1)) ∧ w'.cell? ⟨ad528.block, ad528.off + 3 + 2, none⟩ = some (.slice A534_2 ((rd_T32 l0_2 1).f2).length c534_2)) ∧ (Kd.N k32 32 w' w.heap.size (fun k_ => (w.heap.size ≤ k_) ∧ some k_ ≠ (s_.2 : Value).ownBlock ∧ k_ ≠ gb526 ∧ k_ ≠ gb527) s_.1 t531) ∧ (Kd.N k32 32 w' w.heap.size (fun k_ => (w.heap.size ≤ k_) ∧ some k_ ≠ (s_.1 : Value).ownBlock ∧ k_ ≠ gb526 ∧ k_ ≠ gb527) s_.2 t537) ∧ (w'.heap[gb526]? = some (.cells #[.int .i64 a0_0, .int .i64 a0_1, .slice (some ad528) l0_2.length c0_2] 32 (0, 0))) ∧ (w'.heap[gb527]? = some (.cells #[.int .i64 0, .int .i64 0, .slice none 0 0] 32 (0, 0))) ∧ (Below w.heap.size w w')) ?_ ?_
       rotate_left
       ·intro hJ4_9
        refine join_ (σ := Value × Nat) 4 #[true, true, true, true, true, true, true, true, true, false, true, false, false, false] (fun s_ => [(19, .agg #[.int .i64 t529, .int .i64 t530, s_.1]), (3, .pointer (some ⟨s_.2, 0, none⟩))]) (fun s_ w' => (w'.cell? ⟨gb526, 0, none⟩ = some (.int .i64 a0_0) ∧ w'.cell? ⟨gb526, 1, none⟩ = some (.int .i64 a0_1) ∧ w'.cell? ⟨gb526, 2, none⟩ = some (.slice (some ad528) l0_2.length c0_2) ∧ w'.cell? ad528 = some (.int .i64 ((rd_T32 l0_2 0).f0)) ∧ w'.cell? ⟨ad528.block, ad528.off + 1, none⟩ = some (.int .i64 ((rd_T32 l0_2 0).f1)) ∧ w'.cell? ⟨ad528.block, ad528.off + 2, none⟩ = some (.slice A528_2 ((rd_T32 l0_2 0).f2).length c528_2) ∧ w'.cell? ⟨ad528.block, ad528.off + 3, none⟩ = some (.int .i64 ((rd_T32 l0_2 1).f0)) ∧ w'.cell? ⟨ad528.block, ad528.off + 3 + 1, none⟩ = some (.int .i64 ((rd_T32 l0_2 1).f1)) ∧ w'.cell? ⟨ad528.block, ad528.off + 3 + 2, none⟩ = some (.slice A534_2 ((rd_T32 l0_2 1).f2).length c534_2)) ∧ (Kd.N k32 32 w' w.heap.size (fun k_ => (w.heap.size ≤ k_) ∧ k_ ≠ gb526 ∧ k_ ≠ gb527 ∧ k_ ≠ s_.2) s_.1 t531) ∧ (w'.heap[gb526]? = some (.cells #[.int .i64 a0_0, .int .i64 a0_1, .slice (some ad528) l0_2.length c0_2] 32 (0, 0))) ∧ (w'.heap[gb527]? = some (.cells #[.int .i64 0, .int .i64 0, .slice none 0 0] 32 (0, 0))) ∧ (w'.heap[s_.2]? = some (.cells #[.int .i64 0, .int .i64 0, .slice none 0 0] 32 (0, 0))) ∧ (w.heap.size ≤ s_.2) ∧ (w.heap.size ≤ s_.2) ∧ (gb526 ≠ s_.2) ∧ (s_.2 ≠ gb526) ∧ (gb527 ≠ s_.2) ∧ (s_.2 ≠ gb527) ∧ (Below w.heap.size w w')) ?_ ?_
        rotate_left
        ·intro hJ4_10
         refine join_ (σ := Value × Nat) 4 #[true, true, true, true, true, true, true, true, true, false, false, true, false, false] (fun s_ => [(19, .agg #[.int .i64 t529, .int .i64 t530, s_.1]), (4, .pointer (some ⟨s_.2, 0, none⟩))]) (fun s_ w' => (w'.cell? ⟨gb526, 0, none⟩ = some (.int .i64 a0_0) ∧ w'.cell? ⟨gb526, 1, none⟩ = some (.int .i64 a0_1) ∧ w'.cell? ⟨gb526, 2, none⟩ = some (.slice (some ad528) l0_2.length c0_2) ∧ w'.cell? ad528 = some (.int .i64 ((rd_T32 l0_2 0).f0)) ∧ w'.cell? ⟨ad528.block, ad528.off + 1, none⟩ = some (.int .i64 ((rd_T32 l0_2 0).f1)) ∧ w'.cell? ⟨ad528.block, ad528.off + 2, none⟩ = some (.slice A528_2 ((rd_T32 l0_2 0).f2).length c528_2) ∧ w'.cell? ⟨ad528.block, ad528.off + 3, none⟩ = some (.int .i64 ((rd_T32 l0_2 1).f0)) ∧ w'.cell? ⟨ad528.block, ad528.off + 3 + 1, none⟩ = some (.int .i64 ((rd_T32 l0_2 1).f1)) ∧ w'.cell? ⟨ad528.block, ad528.off + 3 + 2, none⟩ = some (.slice A534_2 ((rd_T32 l0_2 1).f2).length c534_2)) ∧ (Kd.N k32 32 w' w.heap.size (fun k_ => (w.heap.size ≤ k_) ∧ k_ ≠ gb526 ∧ k_ ≠ gb527 ∧ k_ ≠ s_.2) s_.1 t531) ∧ (w'.heap[gb526]? = some (.cells #[.int .i64 a0_0, .int .i64 a0_1, .slice (some ad528) l0_2.length c0_2] 32 (0, 0))) ∧ (w'.heap[gb527]? = some (.cells #[.int .i64 0, .int .i64 0, .slice none 0 0] 32 (0, 0))) ∧ (w'.heap[s_.2]? = some (.cells #[.int .i64 0, .int .i64 0, .slice none 0 0] 32 (0, 0))) ∧ (w.heap.size ≤ s_.2) ∧ (w.heap.size ≤ s_.2) ∧ (gb526 ≠ s_.2) ∧ (s_.2 ≠ gb526) ∧ (gb527 ≠ s_.2) ∧ (s_.2 ≠ gb527) ∧ (Below w.heap.size w w')) ?_ ?_
         rotate_left
         ·intro hJ4_11
          refine join_ (σ := Nat × Nat) 4 #[true, true, true, true, false, true, true, true, true, false, true, true, false, false] (fun s_ => [(3, .pointer (some ⟨s_.1, 0, none⟩)), (4, .pointer (some ⟨s_.2, 0, none⟩))]) (fun s_ w' => (w'.cell? ⟨gb526, 0, none⟩ = some (.int .i64 a0_0) ∧ w'.cell? ⟨gb526, 1, none⟩ = some (.int .i64 a0_1) ∧ w'.cell? ⟨gb526, 2, none⟩ = some (.slice (some ad528) l0_2.length c0_2) ∧ w'.cell? ad528 = some (.int .i64 ((rd_T32 l0_2 0).f0)) ∧ w'.cell? ⟨ad528.block, ad528.off + 1, none⟩ = some (.int .i64 ((rd_T32 l0_2 0).f1)) ∧ w'.cell? ⟨ad528.block, ad528.off + 2, none⟩ = some (.slice A528_2 ((rd_T32 l0_2 0).f2).length c528_2) ∧ w'.cell? ⟨ad528.block, ad528.off + 3, none⟩ = some (.int .i64 ((rd_T32 l0_2 1).f0)) ∧ w'.cell? ⟨ad528.block, ad528.off + 3 + 1, none⟩ = some (.int .i64 ((rd_T32 l0_2 1).f1)) ∧ w'.cell? ⟨ad528.block, ad528.off + 3 + 2, none⟩ = some (.slice A534_2 ((rd_T32 l0_2 1).f2).length c534_2)) ∧ (w'.heap[gb526]? = some (.cells #[.int .i64 a0_0, .int .i64 a0_1, .slice (some ad528) l0_2.length c0_2] 32 (0, 0))) ∧ (w'.heap[gb527]? = some (.cells #[.int .i64 0, .int .i64 0, .slice none 0 0] 32 (0, 0))) ∧ (w'.heap[s_.1]? = some (.cells #[.int .i64 0, .int .i64 0, .slice none 0 0] 32 (0, 0))) ∧ (w'.heap[s_.2]? = some (.cells #[.int .i64 0, .int .i64 0, .slice none 0 0] 32 (0, 0))) ∧ (w.heap.size ≤ s_.1) ∧ (w.heap.size ≤ s_.1) ∧ (gb526 ≠ s_.1) ∧ (s_.1 ≠ gb526) ∧ (gb527 ≠ s_.1) ∧ (s_.1 ≠ gb527) ∧ (s_.2 ≠ s_.1) ∧ (s_.1 ≠ s_.2) ∧ (w.heap.size ≤ s_.2) ∧ (w.heap.size ≤ s_.2) ∧ (gb526 ≠ s_.2) ∧ (s_.2 ≠ gb526) ∧ (gb527 ≠ s_.2) ∧ (s_.2 ≠ gb527) ∧ (Below w.heap.size w w')) ?_ ?_
          rotate_left
          ·intro hJ10_11
           refine join_ (σ := Value) 5 #[true, true, true, true, true, true, true, true, true, false, false, false, false, false] (fun s_ => [(19, .agg #[.int .i64 t529, .int .i64 t530, s_])]) (fun s_ w' => (w'.cell? ⟨gb526, 0, none⟩ = some (.int .i64 a0_0) ∧ w'.cell? ⟨gb526, 1, none⟩ = some (.int .i64 a0_1) ∧ w'.cell? ⟨gb526, 2, none⟩ = some (.slice (some ad528) l0_2.length c0_2) ∧ w'.cell? ad528 = some (.int .i64 ((rd_T32 l0_2 0).f0)) ∧ w'.cell? ⟨ad528.block, ad528.off + 1, none⟩ = some (.int .i64 ((rd_T32 l0_2 0).f1)) ∧ w'.cell? ⟨ad528.block, ad528.off + 2, none⟩ = some (.slice A528_2 ((rd_T32 l0_2 0).f2).length c528_2) ∧ w'.cell? ⟨ad528.block, ad528.off + 3, none⟩ = some (.int .i64 ((rd_T32 l0_2 1).f0)) ∧ w'.cell? ⟨ad528.block, ad528.off + 3 + 1, none⟩ = some (.int .i64 ((rd_T32 l0_2 1).f1)) ∧ w'.cell? ⟨ad528.block, ad528.off + 3 + 2, none⟩ = some (.slice A534_2 ((rd_T32 l0_2 1).f2).length c534_2)) ∧ (Kd.N k32 32 w' w.heap.size (fun k_ => (w.heap.size ≤ k_) ∧ k_ ≠ gb526 ∧ k_ ≠ gb527) s_ t531) ∧ (w'.heap[gb526]? = some (.cells #[.int .i64 a0_0, .int .i64 a0_1, .slice (some ad528) l0_2.length c0_2] 32 (0, 0))) ∧ (w'.heap[gb527]? = some (.cells #[.int .i64 0, .int .i64 0, .slice none 0 0] 32 (0, 0))) ∧ (Below w.heap.size w w')) ?_ ?_
           rotate_left
           ·intro hJ4
            refine join_ (σ := Nat) 5 #[true, true, true, true, false, true, true, true, true, false, true, false, false, false] (fun s_ => [(3, .pointer (some ⟨s_, 0, none⟩))]) (fun s_ w' => (w'.cell? ⟨gb526, 0, none⟩ = some (.int .i64 a0_0) ∧ w'.cell? ⟨gb526, 1, none⟩ = some (.int .i64 a0_1) ∧ w'.cell? ⟨gb526, 2, none⟩ = some (.slice (some ad528) l0_2.length c0_2) ∧ w'.cell? ad528 = some (.int .i64 ((rd_T32 l0_2 0).f0)) ∧ w'.cell? ⟨ad528.block, ad528.off + 1, none⟩ = some (.int .i64 ((rd_T32 l0_2 0).f1)) ∧ w'.cell? ⟨ad528.block, ad528.off + 2, none⟩ = some (.slice A528_2 ((rd_T32 l0_2 0).f2).length c528_2) ∧ w'.cell? ⟨ad528.block, ad528.off + 3, none⟩ = some (.int .i64 ((rd_T32 l0_2 1).f0)) ∧ w'.cell? ⟨ad528.block, ad528.off + 3 + 1, none⟩ = some (.int .i64 ((rd_T32 l0_2 1).f1)) ∧ w'.cell? ⟨ad528.block, ad528.off + 3 + 2, none⟩ = some (.slice A534_2 ((rd_T32 l0_2 1).f2).length c534_2)) ∧ (w'.heap[gb526]? = some (.cells #[.int .i64 a0_0, .int .i64 a0_1, .slice (some ad528) l0_2.length c0_2] 32 (0, 0))) ∧ (w'.heap[gb527]? = some (.cells #[.int .i64 0, .int .i64 0, .slice none 0 0] 32 (0, 0))) ∧ (w'.heap[s_]? = some (.cells #[.int .i64 0, .int .i64 0, .slice none 0 0] 32 (0, 0))) ∧ (w.heap.size ≤ s_) ∧ (w.heap.size ≤ s_) ∧ (gb526 ≠ s_) ∧ (s_ ≠ gb526) ∧ (gb527 ≠ s_) ∧ (s_ ≠ gb527) ∧ (Below w.heap.size w w')) ?_ ?_
            rotate_left
            ·intro hJ10
             refine join_ (σ := Nat) 5 #[true, true, true, true, false, true, true, true, true, false, false, true, false, false] (fun s_ => [(4, .pointer (some ⟨s_, 0, none⟩))]) (fun s_ w' => (w'.cell? ⟨gb526, 0, none⟩ = some (.int .i64 a0_0) ∧ w'.cell? ⟨gb526, 1, none⟩ = some (.int .i64 a0_1) ∧ w'.cell? ⟨gb526, 2, none⟩ = some (.slice (some ad528) l0_2.length c0_2) ∧ w'.cell? ad528 = some (.int .i64 ((rd_T32 l0_2 0).f0)) ∧ w'.cell? ⟨ad528.block, ad528.off + 1, none⟩ = some (.int .i64 ((rd_T32 l0_2 0).f1)) ∧ w'.cell? ⟨ad528.block, ad528.off + 2, none⟩ = some (.slice A528_2 ((rd_T32 l0_2 0).f2).length c528_2) ∧ w'.cell? ⟨ad528.block, ad528.off + 3, none⟩ = some (.int .i64 ((rd_T32 l0_2 1).f0)) ∧ w'.cell? ⟨ad528.block, ad528.off + 3 + 1, none⟩ = some (.int .i64 ((rd_T32 l0_2 1).f1)) ∧ w'.cell? ⟨ad528.block, ad528.off + 3 + 2, none⟩ = some (.slice A534_2 ((rd_T32 l0_2 1).f2).length c534_2)) ∧ (w'.heap[gb526]? = some (.cells #[.int .i64 a0_0, .int .i64 a0_1, .slice (some ad528) l0_2.length c0_2] 32 (0, 0))) ∧ (w'.heap[gb527]? = some (.cells #[.int .i64 0, .int .i64 0, .slice none 0 0] 32 (0, 0))) ∧ (w'.heap[s_]? = some (.cells #[.int .i64 0, .int .i64 0, .slice none 0 0] 32 (0, 0))) ∧ (w.heap.size ≤ s_) ∧ (w.heap.size ≤ s_) ∧ (gb526 ≠ s_) ∧ (s_ ≠ gb526) ∧ (gb527 ≠ s_) ∧ (s_ ≠ gb527) ∧ (Below w.heap.size w w')) ?_ ?_
             rotate_left
             ·intro hJ11
              refine three_ (i := 4) (j := 10) (k := 11) (Ni := some 19) (Nj := some 3) (Nk := some 4) #[true, true, true, true, true, true, true, true, true, false, false, false, false, false] #[true, true, true, true, false, true, true, true, true, false, true, false, false, false] #[true, true, true, true, false, true, true, true, true, false, false, true, false, false] rfl rfl rfl rfl rfl rfl (three_of HT_.out (by kernel_rfl)) (by decide) (by decide) (by decide) (fun K hK => ?_) (fun K hK => ?_) (fun K hK => ?_)
              ·skip
               refine goes_ Try.func78 (by kernel_rfl) rfl #[.agg #[.int .i64 ((rd_T32 l0_2 0).f0), .int .i64 ((rd_T32 l0_2 0).f1), .slice A528_2 ((rd_T32 l0_2 0).f2).length c528_2]] (by rfl) rfl rfl ab1_ ?_
               with_reducible refine (ih k (by omega) ((rd_T32 l0_2 0).f0) ((rd_T32 l0_2 0).f1) _ _ ((rd_T32 l0_2 0).f2) t529 t530 t531 _ (aC_ (Kd.C_below HR528_2.out HB.out)) HC528_2.out A9.out).mono ?_
               rintro e w18 ⟨v532, rfl, ho0, hb⟩
               refine ⟨_, rfl, ?_⟩
               have HO533 := am (Kd.N_lower (Kd.N_mono (ok' := fun k_ => (w.heap.size ≤ k_) ∧ k_ ≠ gb526 ∧ k_ ≠ gb527) ho0 (fun k_ hk_ => ⟨(Nat.le_trans (below_size ab12_) hk_), (frb_ BK526.out k_ hk_), (frb_ BK527.out k_ hk_)⟩)) (below_size ab12_))
               replace BK526 := am (bbl_ BK526.out hb)
               replace BK527 := am (bbl_ BK527.out hb)
               replace HB := am (below_step ab12_ hb)
               (try clear hb)
               (try clear hb2)
               (try clear hk)
               (try clear hi)
               (try clear ho0)
               refine hK.out _ _ (hS0_ _ BK526.out HB.out) (fun hHeld => ?_)
               clear hK K
               refine norm_ (a' := ?_) ?_ ?_
               rotate_left
               ·show Act.put _ (some 19) _ = _
                simp only [Act.put, List.setIfInBounds_toArray, List.set_cons_zero, List.set_cons_succ, i64_w, i32_w]
                rfl
               exact norm_ nm_ (hJ4 (v532) _ ⟨hHeld, (aN_ HO533.out), (aG_ BK526.out), (aG_ BK527.out), ab12_⟩)
              ·skip
               refine box_step ?hg (N := 3) ?hd (cs := #[.int .i64 0, .int .i64 0, .slice none 0 0]) (t := 32) ?hr ?_; (case hd => rfl); (case hg => rfl); (case hr => first | (go_simp; done) | (go_simp; rfl))
               intro gb540 hg w18 hbox hb
               have BK540 := am (hbox)
               have GW540 := am ((by rw [hg]; exact (below_size ab12_) : w.heap.size ≤ gb540))
               have GE540 := am ((by rw [hg]; exact (below_size ab12_) : w.heap.size ≤ gb540))
               replace HB := am (below_step ab12_ hb)
               have NB526_540 := am ((by rw [hg]; exact Nat.ne_of_lt (blt_ BK526.out) : gb526 ≠ gb540))
               have NB540_526 := am ((by rw [hg]; exact Nat.ne_of_gt (blt_ BK526.out) : gb540 ≠ gb526))
               replace BK526 := am (bbl_ BK526.out hb)
               have NB527_540 := am ((by rw [hg]; exact Nat.ne_of_lt (blt_ BK527.out) : gb527 ≠ gb540))
               have NB540_527 := am ((by rw [hg]; exact Nat.ne_of_gt (blt_ BK527.out) : gb540 ≠ gb527))
               replace BK527 := am (bbl_ BK527.out hb)
               clear hb hbox hg
               refine hK.out _ _ (hS0_ _ BK526.out HB.out) (fun hHeld => ?_)
               clear hK K
               refine norm_ (a' := ?_) ?_ ?_
               rotate_left
               ·show Act.put _ (some 3) _ = _
                simp only [Act.put, List.setIfInBounds_toArray, List.set_cons_zero, List.set_cons_succ, i64_w, i32_w]
                rfl
               exact norm_ nm_ (hJ10 (gb540) _ ⟨hHeld, (aG_ BK526.out), (aG_ BK527.out), (aG_ BK540.out), GW540.out, GE540.out, NB526_540.out, NB540_526.out, NB527_540.out, NB540_527.out, ab16_⟩)
              ·skip
               refine box_step ?hg (N := 4) ?hd (cs := #[.int .i64 0, .int .i64 0, .slice none 0 0]) (t := 32) ?hr ?_; (case hd => rfl); (case hg => rfl); (case hr => first | (go_simp; done) | (go_simp; rfl))
               intro gb541 hg w18 hbox hb
               have BK541 := am (hbox)
               have GW541 := am ((by rw [hg]; exact (below_size ab12_) : w.heap.size ≤ gb541))
               have GE541 := am ((by rw [hg]; exact (below_size ab12_) : w.heap.size ≤ gb541))
               replace HB := am (below_step ab12_ hb)
               have NB526_541 := am ((by rw [hg]; exact Nat.ne_of_lt (blt_ BK526.out) : gb526 ≠ gb541))
               have NB541_526 := am ((by rw [hg]; exact Nat.ne_of_gt (blt_ BK526.out) : gb541 ≠ gb526))
               replace BK526 := am (bbl_ BK526.out hb)
               have NB527_541 := am ((by rw [hg]; exact Nat.ne_of_lt (blt_ BK527.out) : gb527 ≠ gb541))
               have NB541_527 := am ((by rw [hg]; exact Nat.ne_of_gt (blt_ BK527.out) : gb541 ≠ gb527))
               replace BK527 := am (bbl_ BK527.out hb)
               clear hb hbox hg
               refine hK.out _ _ (hS0_ _ BK526.out HB.out) (fun hHeld => ?_)
               clear hK K
               refine norm_ (a' := ?_) ?_ ?_
               rotate_left
               ·show Act.put _ (some 4) _ = _
                simp only [Act.put, List.setIfInBounds_toArray, List.set_cons_zero, List.set_cons_succ, i64_w, i32_w]
                rfl
               exact norm_ nm_ (hJ11 (gb541) _ ⟨hHeld, (aG_ BK526.out), (aG_ BK527.out), (aG_ BK541.out), GW541.out, GE541.out, NB526_541.out, NB541_526.out, NB527_541.out, NB541_527.out, ab17_⟩)
             ·skip
              rintro gb541 w19 ⟨hS_, h0_, h1_, h2_, h3_, h4_, h5_, h6_, h7_, h8_, h9_⟩
              replace BK526 : Aside0 (w19.heap[gb526]? = some (.cells #[.int .i64 a0_0, .int .i64 a0_1, .slice (some ad528) l0_2.length c0_2] 32 (0, 0))) := ⟨h0_⟩
              replace BK527 : Aside0 (w19.heap[gb527]? = some (.cells #[.int .i64 0, .int .i64 0, .slice none 0 0] 32 (0, 0))) := ⟨h1_⟩
              have BK541 : Aside0 (w19.heap[gb541]? = some (.cells #[.int .i64 0, .int .i64 0, .slice none 0 0] 32 (0, 0))) := ⟨h2_⟩
              have GW541 : Aside0 (w.heap.size ≤ gb541) := ⟨h3_⟩
              have GE541 : Aside0 (w.heap.size ≤ gb541) := ⟨h4_⟩
              have NB526_541 : Aside0 (gb526 ≠ gb541) := ⟨h5_⟩
              have NB541_526 : Aside0 (gb541 ≠ gb526) := ⟨h6_⟩
              have NB527_541 : Aside0 (gb527 ≠ gb541) := ⟨h7_⟩
              have NB541_527 : Aside0 (gb541 ≠ gb527) := ⟨h8_⟩
              replace HB : Aside0 (Below w.heap.size w w19) := ⟨h9_⟩
              clear h0_ h1_ h2_ h3_ h4_ h5_ h6_ h7_ h8_ h9_
              have hHeld := hS0_ _ BK526.out HB.out
              refine norm_ (a' := ?_) ?_ ?_
              rotate_left
              ·simp only [putAll, Act.put, List.setIfInBounds_toArray, List.set_cons_zero, List.set_cons_succ]
               rfl
              refine two_ (i := 4) (j := 10) (Ni := some 19) (Nj := some 3) #[true, true, true, true, true, true, true, true, true, false, false, true, false, false] #[true, true, true, true, false, true, true, true, true, false, true, true, false, false] rfl rfl rfl rfl (two_of HT_.out (by kernel_rfl)) (by decide) (by decide) (fun K hK => ?_) (fun K hK => ?_)
              ·skip
               refine goes_ Try.func78 (by kernel_rfl) rfl #[.agg #[.int .i64 ((rd_T32 l0_2 0).f0), .int .i64 ((rd_T32 l0_2 0).f1), .slice A528_2 ((rd_T32 l0_2 0).f2).length c528_2]] (by rfl) rfl rfl ab1_ ?_
               with_reducible refine (ih k (by omega) ((rd_T32 l0_2 0).f0) ((rd_T32 l0_2 0).f1) _ _ ((rd_T32 l0_2 0).f2) t529 t530 t531 _ (aC_ (Kd.C_below HR528_2.out HB.out)) HC528_2.out A9.out).mono ?_
               rintro e w20 ⟨v532, rfl, ho0, hb⟩
               refine ⟨_, rfl, ?_⟩
               have HO533 := am (Kd.N_lower (Kd.N_mono (ok' := fun k_ => (w.heap.size ≤ k_) ∧ k_ ≠ gb526 ∧ k_ ≠ gb527 ∧ k_ ≠ gb541) ho0 (fun k_ hk_ => ⟨(Nat.le_trans (below_size ab17_) hk_), (frb_ BK526.out k_ hk_), (frb_ BK527.out k_ hk_), (frb_ BK541.out k_ hk_)⟩)) (below_size ab17_))
               replace BK526 := am (bbl_ BK526.out hb)
               replace BK527 := am (bbl_ BK527.out hb)
               replace BK541 := am (bbl_ BK541.out hb)
               replace HB := am (below_step ab17_ hb)
               (try clear hb)
               (try clear hb2)
               (try clear hk)
               (try clear hi)
               (try clear ho0)
               refine hK.out _ _ (hS0_ _ BK526.out HB.out) (fun hHeld => ?_)
               clear hK K
               refine norm_ (a' := ?_) ?_ ?_
               rotate_left
               ·show Act.put _ (some 19) _ = _
                simp only [Act.put, List.setIfInBounds_toArray, List.set_cons_zero, List.set_cons_succ, i64_w, i32_w]
                rfl
               exact norm_ nm_ (hJ4_11 (v532, gb541) _ ⟨hHeld, (aN_ HO533.out), (aG_ BK526.out), (aG_ BK527.out), (aG_ BK541.out), GW541.out, GE541.out, NB526_541.out, NB541_526.out, NB527_541.out, NB541_527.out, ab17_⟩)
              ·skip
               refine box_step ?hg (N := 3) ?hd (cs := #[.int .i64 0, .int .i64 0, .slice none 0 0]) (t := 32) ?hr ?_; (case hd => rfl); (case hg => rfl); (case hr => first | (go_simp; done) | (go_simp; rfl))
               intro gb540 hg w20 hbox hb
               have BK540 := am (hbox)
               have GW540 := am ((by rw [hg]; exact (below_size ab17_) : w.heap.size ≤ gb540))
               have GE540 := am ((by rw [hg]; exact (below_size ab17_) : w.heap.size ≤ gb540))
               replace HB := am (below_step ab17_ hb)
               have NB526_540 := am ((by rw [hg]; exact Nat.ne_of_lt (blt_ BK526.out) : gb526 ≠ gb540))
               have NB540_526 := am ((by rw [hg]; exact Nat.ne_of_gt (blt_ BK526.out) : gb540 ≠ gb526))
               replace BK526 := am (bbl_ BK526.out hb)
               have NB527_540 := am ((by rw [hg]; exact Nat.ne_of_lt (blt_ BK527.out) : gb527 ≠ gb540))
               have NB540_527 := am ((by rw [hg]; exact Nat.ne_of_gt (blt_ BK527.out) : gb540 ≠ gb527))
               replace BK527 := am (bbl_ BK527.out hb)
               have NB541_540 := am ((by rw [hg]; exact Nat.ne_of_lt (blt_ BK541.out) : gb541 ≠ gb540))
               have NB540_541 := am ((by rw [hg]; exact Nat.ne_of_gt (blt_ BK541.out) : gb540 ≠ gb541))
               replace BK541 := am (bbl_ BK541.out hb)
               clear hb hbox hg
               refine hK.out _ _ (hS0_ _ BK526.out HB.out) (fun hHeld => ?_)
               clear hK K
               refine norm_ (a' := ?_) ?_ ?_
               rotate_left
               ·show Act.put _ (some 3) _ = _
                simp only [Act.put, List.setIfInBounds_toArray, List.set_cons_zero, List.set_cons_succ, i64_w, i32_w]
                rfl
               exact norm_ nm_ (hJ10_11 (gb540, gb541) _ ⟨hHeld, (aG_ BK526.out), (aG_ BK527.out), (aG_ BK540.out), (aG_ BK541.out), GW540.out, GE540.out, NB526_540.out, NB540_526.out, NB527_540.out, NB540_527.out, NB541_540.out, NB540_541.out, GW541.out, GE541.out, NB526_541.out, NB541_526.out, NB527_541.out, NB541_527.out, ab59_⟩)
            ·skip
             rintro gb540 w19 ⟨hS_, h0_, h1_, h2_, h3_, h4_, h5_, h6_, h7_, h8_, h9_⟩
             replace BK526 : Aside0 (w19.heap[gb526]? = some (.cells #[.int .i64 a0_0, .int .i64 a0_1, .slice (some ad528) l0_2.length c0_2] 32 (0, 0))) := ⟨h0_⟩
             replace BK527 : Aside0 (w19.heap[gb527]? = some (.cells #[.int .i64 0, .int .i64 0, .slice none 0 0] 32 (0, 0))) := ⟨h1_⟩
             have BK540 : Aside0 (w19.heap[gb540]? = some (.cells #[.int .i64 0, .int .i64 0, .slice none 0 0] 32 (0, 0))) := ⟨h2_⟩
             have GW540 : Aside0 (w.heap.size ≤ gb540) := ⟨h3_⟩
             have GE540 : Aside0 (w.heap.size ≤ gb540) := ⟨h4_⟩
             have NB526_540 : Aside0 (gb526 ≠ gb540) := ⟨h5_⟩
             have NB540_526 : Aside0 (gb540 ≠ gb526) := ⟨h6_⟩
             have NB527_540 : Aside0 (gb527 ≠ gb540) := ⟨h7_⟩
             have NB540_527 : Aside0 (gb540 ≠ gb527) := ⟨h8_⟩
             replace HB : Aside0 (Below w.heap.size w w19) := ⟨h9_⟩
             clear h0_ h1_ h2_ h3_ h4_ h5_ h6_ h7_ h8_ h9_
             have hHeld := hS0_ _ BK526.out HB.out
             refine norm_ (a' := ?_) ?_ ?_
             rotate_left
             ·simp only [putAll, Act.put, List.setIfInBounds_toArray, List.set_cons_zero, List.set_cons_succ]
              rfl
             refine two_ (i := 4) (j := 11) (Ni := some 19) (Nj := some 4) #[true, true, true, true, true, true, true, true, true, false, true, false, false, false] #[true, true, true, true, false, true, true, true, true, false, true, true, false, false] rfl rfl rfl rfl (two_of HT_.out (by kernel_rfl)) (by decide) (by decide) (fun K hK => ?_) (fun K hK => ?_)
             ·skip
              refine goes_ Try.func78 (by kernel_rfl) rfl #[.agg #[.int .i64 ((rd_T32 l0_2 0).f0), .int .i64 ((rd_T32 l0_2 0).f1), .slice A528_2 ((rd_T32 l0_2 0).f2).length c528_2]] (by rfl) rfl rfl ab1_ ?_
              with_reducible refine (ih k (by omega) ((rd_T32 l0_2 0).f0) ((rd_T32 l0_2 0).f1) _ _ ((rd_T32 l0_2 0).f2) t529 t530 t531 _ (aC_ (Kd.C_below HR528_2.out HB.out)) HC528_2.out A9.out).mono ?_
              rintro e w20 ⟨v532, rfl, ho0, hb⟩
              refine ⟨_, rfl, ?_⟩
              have HO533 := am (Kd.N_lower (Kd.N_mono (ok' := fun k_ => (w.heap.size ≤ k_) ∧ k_ ≠ gb526 ∧ k_ ≠ gb527 ∧ k_ ≠ gb540) ho0 (fun k_ hk_ => ⟨(Nat.le_trans (below_size ab16_) hk_), (frb_ BK526.out k_ hk_), (frb_ BK527.out k_ hk_), (frb_ BK540.out k_ hk_)⟩)) (below_size ab16_))
              replace BK526 := am (bbl_ BK526.out hb)
              replace BK527 := am (bbl_ BK527.out hb)
              replace BK540 := am (bbl_ BK540.out hb)
              replace HB := am (below_step ab16_ hb)
              (try clear hb)
              (try clear hb2)
              (try clear hk)
              (try clear hi)
              (try clear ho0)
              refine hK.out _ _ (hS0_ _ BK526.out HB.out) (fun hHeld => ?_)
              clear hK K
              refine norm_ (a' := ?_) ?_ ?_
              rotate_left
              ·show Act.put _ (some 19) _ = _
               simp only [Act.put, List.setIfInBounds_toArray, List.set_cons_zero, List.set_cons_succ, i64_w, i32_w]
               rfl
              exact norm_ nm_ (hJ4_10 (v532, gb540) _ ⟨hHeld, (aN_ HO533.out), (aG_ BK526.out), (aG_ BK527.out), (aG_ BK540.out), GW540.out, GE540.out, NB526_540.out, NB540_526.out, NB527_540.out, NB540_527.out, ab16_⟩)
             ·skip
              refine box_step ?hg (N := 4) ?hd (cs := #[.int .i64 0, .int .i64 0, .slice none 0 0]) (t := 32) ?hr ?_; (case hd => rfl); (case hg => rfl); (case hr => first | (go_simp; done) | (go_simp; rfl))
              intro gb541 hg w20 hbox hb
              have BK541 := am (hbox)
              have GW541 := am ((by rw [hg]; exact (below_size ab16_) : w.heap.size ≤ gb541))
              have GE541 := am ((by rw [hg]; exact (below_size ab16_) : w.heap.size ≤ gb541))
              replace HB := am (below_step ab16_ hb)
              have NB526_541 := am ((by rw [hg]; exact Nat.ne_of_lt (blt_ BK526.out) : gb526 ≠ gb541))
              have NB541_526 := am ((by rw [hg]; exact Nat.ne_of_gt (blt_ BK526.out) : gb541 ≠ gb526))
              replace BK526 := am (bbl_ BK526.out hb)
              have NB527_541 := am ((by rw [hg]; exact Nat.ne_of_lt (blt_ BK527.out) : gb527 ≠ gb541))
              have NB541_527 := am ((by rw [hg]; exact Nat.ne_of_gt (blt_ BK527.out) : gb541 ≠ gb527))
              replace BK527 := am (bbl_ BK527.out hb)
              have NB540_541 := am ((by rw [hg]; exact Nat.ne_of_lt (blt_ BK540.out) : gb540 ≠ gb541))
              have NB541_540 := am ((by rw [hg]; exact Nat.ne_of_gt (blt_ BK540.out) : gb541 ≠ gb540))
              replace BK540 := am (bbl_ BK540.out hb)
              clear hb hbox hg
              refine hK.out _ _ (hS0_ _ BK526.out HB.out) (fun hHeld => ?_)
              clear hK K
              refine norm_ (a' := ?_) ?_ ?_
              rotate_left
              ·show Act.put _ (some 4) _ = _
               simp only [Act.put, List.setIfInBounds_toArray, List.set_cons_zero, List.set_cons_succ, i64_w, i32_w]
               rfl
              exact norm_ nm_ (hJ10_11 (gb540, gb541) _ ⟨hHeld, (aG_ BK526.out), (aG_ BK527.out), (aG_ BK540.out), (aG_ BK541.out), GW540.out, GE540.out, NB526_540.out, NB540_526.out, NB527_540.out, NB540_527.out, NB541_540.out, NB540_541.out, GW541.out, GE541.out, NB526_541.out, NB541_526.out, NB527_541.out, NB541_527.out, ab8_⟩)
           ·skip
            rintro v532 w19 ⟨hS_, h0_, h1_, h2_, h3_⟩
            have HO533 : Aside0 (Kd.N k32 32 w19 w.heap.size (fun k_ => (w.heap.size ≤ k_) ∧ k_ ≠ gb526 ∧ k_ ≠ gb527) v532 t531) := ⟨h0_⟩
            replace BK526 : Aside0 (w19.heap[gb526]? = some (.cells #[.int .i64 a0_0, .int .i64 a0_1, .slice (some ad528) l0_2.length c0_2] 32 (0, 0))) := ⟨h1_⟩
            replace BK527 : Aside0 (w19.heap[gb527]? = some (.cells #[.int .i64 0, .int .i64 0, .slice none 0 0] 32 (0, 0))) := ⟨h2_⟩
            replace HB : Aside0 (Below w.heap.size w w19) := ⟨h3_⟩
            clear h0_ h1_ h2_ h3_
            have hHeld := hS0_ _ BK526.out HB.out
            refine norm_ (a' := ?_) ?_ ?_
            rotate_left
            ·simp only [putAll, Act.put, List.setIfInBounds_toArray, List.set_cons_zero, List.set_cons_succ]
             rfl
            refine three_ (i := 9) (j := 10) (k := 11) (Ni := some 24) (Nj := some 3) (Nk := some 4) #[true, true, true, true, true, true, true, true, true, true, false, false, false, false] #[true, true, true, true, true, true, true, true, true, false, true, false, false, false] #[true, true, true, true, true, true, true, true, true, false, false, true, false, false] rfl rfl rfl rfl rfl rfl (three_of HT_.out (by kernel_rfl)) (by decide) (by decide) (by decide) (fun K hK => ?_) (fun K hK => ?_) (fun K hK => ?_)
            ·skip
             refine goes_ Try.func78 (by kernel_rfl) rfl #[.agg #[.int .i64 ((rd_T32 l0_2 1).f0), .int .i64 ((rd_T32 l0_2 1).f1), .slice A534_2 ((rd_T32 l0_2 1).f2).length c534_2]] (by rfl) rfl rfl ab1_ ?_
             with_reducible refine (ih k (by omega) ((rd_T32 l0_2 1).f0) ((rd_T32 l0_2 1).f1) _ _ ((rd_T32 l0_2 1).f2) t535 t536 t537 _ (aC_ (Kd.C_below HR534_2.out HB.out)) HC534_2.out A11.out).mono ?_
             rintro e w20 ⟨v538, rfl, ho0, hb⟩
             refine ⟨_, rfl, ?_⟩
             have HO539 := am (Kd.N_lower (Kd.N_mono (ok' := fun k_ => (w.heap.size ≤ k_) ∧ some k_ ≠ (v532 : Value).ownBlock ∧ k_ ≠ gb526 ∧ k_ ≠ gb527) ho0 (fun k_ hk_ => ⟨(Nat.le_trans (below_size ab12_) hk_), (Kd.fresh' (Kd.N_lt (aN_ HO533.out)) k_ hk_), (frb_ BK526.out k_ hk_), (frb_ BK527.out k_ hk_)⟩)) (below_size ab12_))
             replace HO533 := am (Kd.N_elder' (aN_ HO533.out) (by first | exact Kd.N_base ho0 | exact Kd.N_base (Kd.R_N ho0)) hb)
             replace BK526 := am (bbl_ BK526.out hb)
             replace BK527 := am (bbl_ BK527.out hb)
             replace HB := am (below_step ab12_ hb)
             (try clear hb)
             (try clear hb2)
             (try clear hk)
             (try clear hi)
             (try clear ho0)
             refine hK.out _ _ (hS0_ _ BK526.out HB.out) (fun hHeld => ?_)
             clear hK K
             refine norm_ (a' := ?_) ?_ ?_
             rotate_left
             ·show Act.put _ (some 24) _ = _
              simp only [Act.put, List.setIfInBounds_toArray, List.set_cons_zero, List.set_cons_succ, i64_w, i32_w]
              rfl
             exact norm_ nm_ (hJ4_9 (v532, v538) _ ⟨hHeld, (by (with_reducible repeat (first | apply Kd.N_alloc | apply Kd.N_drewN | apply Kd.N_drew)); exact Kd.N_mono HO533.out (fun _ hk => ⟨hk.1.1, ⟨hk.2, ⟨hk.1.2.1, hk.1.2.2⟩⟩⟩)), (aN_ HO539.out), (aG_ BK526.out), (aG_ BK527.out), ab12_⟩)
            ·skip
             refine box_step ?hg (N := 3) ?hd (cs := #[.int .i64 0, .int .i64 0, .slice none 0 0]) (t := 32) ?hr ?_; (case hd => rfl); (case hg => rfl); (case hr => first | (go_simp; done) | (go_simp; rfl))
             intro gb540 hg w20 hbox hb
             replace HO533 := am (Kd.N_below (Kd.N_elderB (aN_ HO533.out) gb540 (Nat.le_of_eq hg.symm)) hb)
             have BK540 := am (hbox)
             have GW540 := am ((by rw [hg]; exact (below_size ab12_) : w.heap.size ≤ gb540))
             have GE540 := am ((by rw [hg]; exact (below_size ab12_) : w.heap.size ≤ gb540))
             replace HB := am (below_step ab12_ hb)
             have NB526_540 := am ((by rw [hg]; exact Nat.ne_of_lt (blt_ BK526.out) : gb526 ≠ gb540))
             have NB540_526 := am ((by rw [hg]; exact Nat.ne_of_gt (blt_ BK526.out) : gb540 ≠ gb526))
             replace BK526 := am (bbl_ BK526.out hb)
             have NB527_540 := am ((by rw [hg]; exact Nat.ne_of_lt (blt_ BK527.out) : gb527 ≠ gb540))
             have NB540_527 := am ((by rw [hg]; exact Nat.ne_of_gt (blt_ BK527.out) : gb540 ≠ gb527))
             replace BK527 := am (bbl_ BK527.out hb)
             clear hb hbox hg
             refine hK.out _ _ (hS0_ _ BK526.out HB.out) (fun hHeld => ?_)
             clear hK K
             refine norm_ (a' := ?_) ?_ ?_
             rotate_left
             ·show Act.put _ (some 3) _ = _
              simp only [Act.put, List.setIfInBounds_toArray, List.set_cons_zero, List.set_cons_succ, i64_w, i32_w]
              rfl
             exact norm_ nm_ (hJ4_10 (v532, gb540) _ ⟨hHeld, (by (with_reducible repeat (first | apply Kd.N_alloc | apply Kd.N_drewN | apply Kd.N_drew)); exact Kd.N_mono HO533.out (fun _ hk => ⟨hk.1.1, ⟨hk.1.2.1, ⟨hk.1.2.2, hk.2⟩⟩⟩)), (aG_ BK526.out), (aG_ BK527.out), (aG_ BK540.out), GW540.out, GE540.out, NB526_540.out, NB540_526.out, NB527_540.out, NB540_527.out, ab16_⟩)
            ·skip
             refine box_step ?hg (N := 4) ?hd (cs := #[.int .i64 0, .int .i64 0, .slice none 0 0]) (t := 32) ?hr ?_; (case hd => rfl); (case hg => rfl); (case hr => first | (go_simp; done) | (go_simp; rfl))
             intro gb541 hg w20 hbox hb
             replace HO533 := am (Kd.N_below (Kd.N_elderB (aN_ HO533.out) gb541 (Nat.le_of_eq hg.symm)) hb)
             have BK541 := am (hbox)
             have GW541 := am ((by rw [hg]; exact (below_size ab12_) : w.heap.size ≤ gb541))
             have GE541 := am ((by rw [hg]; exact (below_size ab12_) : w.heap.size ≤ gb541))
             replace HB := am (below_step ab12_ hb)
             have NB526_541 := am ((by rw [hg]; exact Nat.ne_of_lt (blt_ BK526.out) : gb526 ≠ gb541))
             have NB541_526 := am ((by rw [hg]; exact Nat.ne_of_gt (blt_ BK526.out) : gb541 ≠ gb526))
             replace BK526 := am (bbl_ BK526.out hb)
             have NB527_541 := am ((by rw [hg]; exact Nat.ne_of_lt (blt_ BK527.out) : gb527 ≠ gb541))
             have NB541_527 := am ((by rw [hg]; exact Nat.ne_of_gt (blt_ BK527.out) : gb541 ≠ gb527))
             replace BK527 := am (bbl_ BK527.out hb)
             clear hb hbox hg
             refine hK.out _ _ (hS0_ _ BK526.out HB.out) (fun hHeld => ?_)
             clear hK K
             refine norm_ (a' := ?_) ?_ ?_
             rotate_left
             ·show Act.put _ (some 4) _ = _
              simp only [Act.put, List.setIfInBounds_toArray, List.set_cons_zero, List.set_cons_succ, i64_w, i32_w]
              rfl
             exact norm_ nm_ (hJ4_11 (v532, gb541) _ ⟨hHeld, (by (with_reducible repeat (first | apply Kd.N_alloc | apply Kd.N_drewN | apply Kd.N_drew)); exact Kd.N_mono HO533.out (fun _ hk => ⟨hk.1.1, ⟨hk.1.2.1, ⟨hk.1.2.2, hk.2⟩⟩⟩)), (aG_ BK526.out), (aG_ BK527.out), (aG_ BK541.out), GW541.out, GE541.out, NB526_541.out, NB541_526.out, NB527_541.out, NB541_527.out, ab17_⟩)
          ·skip
           rintro ⟨gb540, gb541⟩ w20 ⟨hS_, h0_, h1_, h2_, h3_, h4_, h5_, h6_, h7_, h8_, h9_, h10_, h11_, h12_, h13_, h14_, h15_, h16_, h17_, h18_⟩
           replace BK526 : Aside0 (w20.heap[gb526]? = some (.cells #[.int .i64 a0_0, .int .i64 a0_1, .slice (some ad528) l0_2.length c0_2] 32 (0, 0))) := ⟨h0_⟩
           replace BK527 : Aside0 (w20.heap[gb527]? = some (.cells #[.int .i64 0, .int .i64 0, .slice none 0 0] 32 (0, 0))) := ⟨h1_⟩
           have BK540 : Aside0 (w20.heap[gb540]? = some (.cells #[.int .i64 0, .int .i64 0, .slice none 0 0] 32 (0, 0))) := ⟨h2_⟩
           have BK541 : Aside0 (w20.heap[gb541]? = some (.cells #[.int .i64 0, .int .i64 0, .slice none 0 0] 32 (0, 0))) := ⟨h3_⟩
           have GW540 : Aside0 (w.heap.size ≤ gb540) := ⟨h4_⟩
           have GE540 : Aside0 (w.heap.size ≤ gb540) := ⟨h5_⟩
           have NB526_540 : Aside0 (gb526 ≠ gb540) := ⟨h6_⟩
           have NB540_526 : Aside0 (gb540 ≠ gb526) := ⟨h7_⟩
           have NB527_540 : Aside0 (gb527 ≠ gb540) := ⟨h8_⟩
           have NB540_527 : Aside0 (gb540 ≠ gb527) := ⟨h9_⟩
           have NB541_540 : Aside0 (gb541 ≠ gb540) := ⟨h10_⟩
           have NB540_541 : Aside0 (gb540 ≠ gb541) := ⟨h11_⟩
           have GW541 : Aside0 (w.heap.size ≤ gb541) := ⟨h12_⟩
           have GE541 : Aside0 (w.heap.size ≤ gb541) := ⟨h13_⟩
           have NB526_541 : Aside0 (gb526 ≠ gb541) := ⟨h14_⟩
           have NB541_526 : Aside0 (gb541 ≠ gb526) := ⟨h15_⟩
           have NB527_541 : Aside0 (gb527 ≠ gb541) := ⟨h16_⟩
           have NB541_527 : Aside0 (gb541 ≠ gb527) := ⟨h17_⟩
           replace HB : Aside0 (Below w.heap.size w w20) := ⟨h18_⟩
           clear h0_ h1_ h2_ h3_ h4_ h5_ h6_ h7_ h8_ h9_ h10_ h11_ h12_ h13_ h14_ h15_ h16_ h17_ h18_
           have hHeld := hS0_ _ BK526.out HB.out
           refine norm_ (a' := ?_) ?_ ?_
           rotate_left
           ·simp only [putAll, Act.put, List.setIfInBounds_toArray, List.set_cons_zero, List.set_cons_succ]
            rfl
           refine one_ (i := 4) (N := some 19) #[true, true, true, true, true, true, true, true, true, false, true, true, false, false] rfl rfl (one_of HT_.out (by kernel_rfl)) (by decide) (fun K hK => ?_)
           refine goes_ Try.func78 (by kernel_rfl) rfl #[.agg #[.int .i64 ((rd_T32 l0_2 0).f0), .int .i64 ((rd_T32 l0_2 0).f1), .slice A528_2 ((rd_T32 l0_2 0).f2).length c528_2]] (by rfl) rfl rfl ab1_ ?_
           with_reducible refine (ih k (by omega) ((rd_T32 l0_2 0).f0) ((rd_T32 l0_2 0).f1) _ _ ((rd_T32 l0_2 0).f2) t529 t530 t531 _ (aC_ (Kd.C_below HR528_2.out HB.out)) HC528_2.out A9.out).mono ?_
           rintro e w21 ⟨v532, rfl, ho0, hb⟩
           refine ⟨_, rfl, ?_⟩
           have HO533 := am (Kd.N_lower (Kd.N_mono (ok' := fun k_ => (w.heap.size ≤ k_) ∧ k_ ≠ gb526 ∧ k_ ≠ gb527 ∧ k_ ≠ gb540 ∧ k_ ≠ gb541) ho0 (fun k_ hk_ => ⟨(Nat.le_trans (below_size ab8_) hk_), (frb_ BK526.out k_ hk_), (frb_ BK527.out k_ hk_), (frb_ BK540.out k_ hk_), (frb_ BK541.out k_ hk_)⟩)) (below_size ab8_))
           replace BK526 := am (bbl_ BK526.out hb)
           replace BK527 := am (bbl_ BK527.out hb)
           replace BK540 := am (bbl_ BK540.out hb)
           replace BK541 := am (bbl_ BK541.out hb)
           replace HB := am (below_step ab8_ hb)
           (try clear hb)
           (try clear hb2)
           (try clear hk)
           (try clear hi)
           (try clear ho0)
           refine hK.out _ _ (hS0_ _ BK526.out HB.out) (fun hHeld => ?_)
           clear hK K
           refine norm_ (a' := ?_) ?_ ?_
           rotate_left
           ·show Act.put _ (some 19) _ = _
            simp only [Act.put, List.setIfInBounds_toArray, List.set_cons_zero, List.set_cons_succ, i64_w, i32_w]
            rfl
           exact norm_ nm_ (hJ4_10_11 (v532, gb540, gb541) _ ⟨hHeld, (aN_ HO533.out), (aG_ BK526.out), (aG_ BK527.out), (aG_ BK540.out), (aG_ BK541.out), GW540.out, GE540.out, NB526_540.out, NB540_526.out, NB527_540.out, NB540_527.out, NB541_540.out, NB540_541.out, GW541.out, GE541.out, NB526_541.out, NB541_526.out, NB527_541.out, NB541_527.out, ab8_⟩)
         ·skip
          rintro ⟨v532, gb541⟩ w20 ⟨hS_, h0_, h1_, h2_, h3_, h4_, h5_, h6_, h7_, h8_, h9_, h10_⟩
          have HO533 : Aside0 (Kd.N k32 32 w20 w.heap.size (fun k_ => (w.heap.size ≤ k_) ∧ k_ ≠ gb526 ∧ k_ ≠ gb527 ∧ k_ ≠ gb541) v532 t531) := ⟨h0_⟩
          replace BK526 : Aside0 (w20.heap[gb526]? = some (.cells #[.int .i64 a0_0, .int .i64 a0_1, .slice (some ad528) l0_2.length c0_2] 32 (0, 0))) := ⟨h1_⟩
          replace BK527 : Aside0 (w20.heap[gb527]? = some (.cells #[.int .i64 0, .int .i64 0, .slice none 0 0] 32 (0, 0))) := ⟨h2_⟩
          have BK541 : Aside0 (w20.heap[gb541]? = some (.cells #[.int .i64 0, .int .i64 0, .slice none 0 0] 32 (0, 0))) := ⟨h3_⟩
          have GW541 : Aside0 (w.heap.size ≤ gb541) := ⟨h4_⟩
          have GE541 : Aside0 (w.heap.size ≤ gb541) := ⟨h5_⟩
          have NB526_541 : Aside0 (gb526 ≠ gb541) := ⟨h6_⟩
          have NB541_526 : Aside0 (gb541 ≠ gb526) := ⟨h7_⟩
          have NB527_541 : Aside0 (gb527 ≠ gb541) := ⟨h8_⟩
          have NB541_527 : Aside0 (gb541 ≠ gb527) := ⟨h9_⟩
          replace HB : Aside0 (Below w.heap.size w w20) := ⟨h10_⟩
          clear h0_ h1_ h2_ h3_ h4_ h5_ h6_ h7_ h8_ h9_ h10_
          have hHeld := hS0_ _ BK526.out HB.out
          refine norm_ (a' := ?_) ?_ ?_
          rotate_left
          ·simp only [putAll, Act.put, List.setIfInBounds_toArray, List.set_cons_zero, List.set_cons_succ]
           rfl
          refine two_ (i := 9) (j := 10) (Ni := some 24) (Nj := some 3) #[true, true, true, true, true, true, true, true, true, true, false, true, false, false] #[true, true, true, true, true, true, true, true, true, false, true, true, false, false] rfl rfl rfl rfl (two_of HT_.out (by kernel_rfl)) (by decide) (by decide) (fun K hK => ?_) (fun K hK => ?_)
          ·skip
           refine goes_ Try.func78 (by kernel_rfl) rfl #[.agg #[.int .i64 ((rd_T32 l0_2 1).f0), .int .i64 ((rd_T32 l0_2 1).f1), .slice A534_2 ((rd_T32 l0_2 1).f2).length c534_2]] (by rfl) rfl rfl ab1_ ?_
           with_reducible refine (ih k (by omega) ((rd_T32 l0_2 1).f0) ((rd_T32 l0_2 1).f1) _ _ ((rd_T32 l0_2 1).f2) t535 t536 t537 _ (aC_ (Kd.C_below HR534_2.out HB.out)) HC534_2.out A11.out).mono ?_
           rintro e w21 ⟨v538, rfl, ho0, hb⟩
           refine ⟨_, rfl, ?_⟩
           have HO539 := am (Kd.N_lower (Kd.N_mono (ok' := fun k_ => (w.heap.size ≤ k_) ∧ some k_ ≠ (v532 : Value).ownBlock ∧ k_ ≠ gb526 ∧ k_ ≠ gb527 ∧ k_ ≠ gb541) ho0 (fun k_ hk_ => ⟨(Nat.le_trans (below_size ab17_) hk_), (Kd.fresh' (Kd.N_lt (aN_ HO533.out)) k_ hk_), (frb_ BK526.out k_ hk_), (frb_ BK527.out k_ hk_), (frb_ BK541.out k_ hk_)⟩)) (below_size ab17_))
           replace HO533 := am (Kd.N_elder' (aN_ HO533.out) (by first | exact Kd.N_base ho0 | exact Kd.N_base (Kd.R_N ho0)) hb)
           replace BK526 := am (bbl_ BK526.out hb)
           replace BK527 := am (bbl_ BK527.out hb)
           replace BK541 := am (bbl_ BK541.out hb)
           replace HB := am (below_step ab17_ hb)
           (try clear hb)
           (try clear hb2)
           (try clear hk)
           (try clear hi)
           (try clear ho0)
           refine hK.out _ _ (hS0_ _ BK526.out HB.out) (fun hHeld => ?_)
           clear hK K
           refine norm_ (a' := ?_) ?_ ?_
           rotate_left
           ·show Act.put _ (some 24) _ = _
            simp only [Act.put, List.setIfInBounds_toArray, List.set_cons_zero, List.set_cons_succ, i64_w, i32_w]
            rfl
           exact norm_ nm_ (hJ4_9_11 (v532, v538, gb541) _ ⟨hHeld, (by (with_reducible repeat (first | apply Kd.N_alloc | apply Kd.N_drewN | apply Kd.N_drew)); exact Kd.N_mono HO533.out (fun _ hk => ⟨hk.1.1, ⟨hk.2, ⟨hk.1.2.1, ⟨hk.1.2.2.1, hk.1.2.2.2⟩⟩⟩⟩)), (aN_ HO539.out), (aG_ BK526.out), (aG_ BK527.out), (aG_ BK541.out), GW541.out, GE541.out, NB526_541.out, NB541_526.out, NB527_541.out, NB541_527.out, ab17_⟩)
          ·skip
           refine box_step ?hg (N := 3) ?hd (cs := #[.int .i64 0, .int .i64 0, .slice none 0 0]) (t := 32) ?hr ?_; (case hd => rfl); (case hg => rfl); (case hr => first | (go_simp; done) | (go_simp; rfl))
           intro gb540 hg w21 hbox hb
           replace HO533 := am (Kd.N_below (Kd.N_elderB (aN_ HO533.out) gb540 (Nat.le_of_eq hg.symm)) hb)
           have BK540 := am (hbox)
           have GW540 := am ((by rw [hg]; exact (below_size ab17_) : w.heap.size ≤ gb540))
           have GE540 := am ((by rw [hg]; exact (below_size ab17_) : w.heap.size ≤ gb540))
           replace HB := am (below_step ab17_ hb)
           have NB526_540 := am ((by rw [hg]; exact Nat.ne_of_lt (blt_ BK526.out) : gb526 ≠ gb540))
           have NB540_526 := am ((by rw [hg]; exact Nat.ne_of_gt (blt_ BK526.out) : gb540 ≠ gb526))
           replace BK526 := am (bbl_ BK526.out hb)
           have NB527_540 := am ((by rw [hg]; exact Nat.ne_of_lt (blt_ BK527.out) : gb527 ≠ gb540))
           have NB540_527 := am ((by rw [hg]; exact Nat.ne_of_gt (blt_ BK527.out) : gb540 ≠ gb527))
           replace BK527 := am (bbl_ BK527.out hb)
           have NB541_540 := am ((by rw [hg]; exact Nat.ne_of_lt (blt_ BK541.out) : gb541 ≠ gb540))
           have NB540_541 := am ((by rw [hg]; exact Nat.ne_of_gt (blt_ BK541.out) : gb540 ≠ gb541))
           replace BK541 := am (bbl_ BK541.out hb)
           clear hb hbox hg
           refine hK.out _ _ (hS0_ _ BK526.out HB.out) (fun hHeld => ?_)
           clear hK K
           refine norm_ (a' := ?_) ?_ ?_
           rotate_left
           ·show Act.put _ (some 3) _ = _
            simp only [Act.put, List.setIfInBounds_toArray, List.set_cons_zero, List.set_cons_succ, i64_w, i32_w]
            rfl
           exact norm_ nm_ (hJ4_10_11 (v532, gb540, gb541) _ ⟨hHeld, (by (with_reducible repeat (first | apply Kd.N_alloc | apply Kd.N_drewN | apply Kd.N_drew)); exact Kd.N_mono HO533.out (fun _ hk => ⟨hk.1.1, ⟨hk.1.2.1, ⟨hk.1.2.2.1, ⟨hk.2, hk.1.2.2.2⟩⟩⟩⟩)), (aG_ BK526.out), (aG_ BK527.out), (aG_ BK540.out), (aG_ BK541.out), GW540.out, GE540.out, NB526_540.out, NB540_526.out, NB527_540.out, NB540_527.out, NB541_540.out, NB540_541.out, GW541.out, GE541.out, NB526_541.out, NB541_526.out, NB527_541.out, NB541_527.out, ab59_⟩)
        ·skip
         rintro ⟨v532, gb540⟩ w20 ⟨hS_, h0_, h1_, h2_, h3_, h4_, h5_, h6_, h7_, h8_, h9_, h10_⟩
         have HO533 : Aside0 (Kd.N k32 32 w20 w.heap.size (fun k_ => (w.heap.size ≤ k_) ∧ k_ ≠ gb526 ∧ k_ ≠ gb527 ∧ k_ ≠ gb540) v532 t531) := ⟨h0_⟩
         replace BK526 : Aside0 (w20.heap[gb526]? = some (.cells #[.int .i64 a0_0, .int .i64 a0_1, .slice (some ad528) l0_2.length c0_2] 32 (0, 0))) := ⟨h1_⟩
         replace BK527 : Aside0 (w20.heap[gb527]? = some (.cells #[.int .i64 0, .int .i64 0, .slice none 0 0] 32 (0, 0))) := ⟨h2_⟩
         have BK540 : Aside0 (w20.heap[gb540]? = some (.cells #[.int .i64 0, .int .i64 0, .slice none 0 0] 32 (0, 0))) := ⟨h3_⟩
         have GW540 : Aside0 (w.heap.size ≤ gb540) := ⟨h4_⟩
         have GE540 : Aside0 (w.heap.size ≤ gb540) := ⟨h5_⟩
         have NB526_540 : Aside0 (gb526 ≠ gb540) := ⟨h6_⟩
         have NB540_526 : Aside0 (gb540 ≠ gb526) := ⟨h7_⟩
         have NB527_540 : Aside0 (gb527 ≠ gb540) := ⟨h8_⟩
         have NB540_527 : Aside0 (gb540 ≠ gb527) := ⟨h9_⟩
         replace HB : Aside0 (Below w.heap.size w w20) := ⟨h10_⟩
         clear h0_ h1_ h2_ h3_ h4_ h5_ h6_ h7_ h8_ h9_ h10_
         have hHeld := hS0_ _ BK526.out HB.out
         refine norm_ (a' := ?_) ?_ ?_
         rotate_left
         ·simp only [putAll, Act.put, List.setIfInBounds_toArray, List.set_cons_zero, List.set_cons_succ]
          rfl
         refine two_ (i := 9) (j := 11) (Ni := some 24) (Nj := some 4) #[true, true, true, true, true, true, true, true, true, true, true, false, false, false] #[true, true, true, true, true, true, true, true, true, false, true, true, false, false] rfl rfl rfl rfl (two_of HT_.out (by kernel_rfl)) (by decide) (by decide) (fun K hK => ?_) (fun K hK => ?_)
         ·skip
          refine goes_ Try.func78 (by kernel_rfl) rfl #[.agg #[.int .i64 ((rd_T32 l0_2 1).f0), .int .i64 ((rd_T32 l0_2 1).f1), .slice A534_2 ((rd_T32 l0_2 1).f2).length c534_2]] (by rfl) rfl rfl ab1_ ?_
          with_reducible refine (ih k (by omega) ((rd_T32 l0_2 1).f0) ((rd_T32 l0_2 1).f1) _ _ ((rd_T32 l0_2 1).f2) t535 t536 t537 _ (aC_ (Kd.C_below HR534_2.out HB.out)) HC534_2.out A11.out).mono ?_
          rintro e w21 ⟨v538, rfl, ho0, hb⟩
          refine ⟨_, rfl, ?_⟩
          have HO539 := am (Kd.N_lower (Kd.N_mono (ok' := fun k_ => (w.heap.size ≤ k_) ∧ some k_ ≠ (v532 : Value).ownBlock ∧ k_ ≠ gb526 ∧ k_ ≠ gb527 ∧ k_ ≠ gb540) ho0 (fun k_ hk_ => ⟨(Nat.le_trans (below_size ab16_) hk_), (Kd.fresh' (Kd.N_lt (aN_ HO533.out)) k_ hk_), (frb_ BK526.out k_ hk_), (frb_ BK527.out k_ hk_), (frb_ BK540.out k_ hk_)⟩)) (below_size ab16_))
          replace HO533 := am (Kd.N_elder' (aN_ HO533.out) (by first | exact Kd.N_base ho0 | exact Kd.N_base (Kd.R_N ho0)) hb)
          replace BK526 := am (bbl_ BK526.out hb)
          replace BK527 := am (bbl_ BK527.out hb)
          replace BK540 := am (bbl_ BK540.out hb)
          replace HB := am (below_step ab16_ hb)
          (try clear hb)
          (try clear hb2)
          (try clear hk)
          (try clear hi)
          (try clear ho0)
          refine hK.out _ _ (hS0_ _ BK526.out HB.out) (fun hHeld => ?_)
          clear hK K
          refine norm_ (a' := ?_) ?_ ?_
          rotate_left
          ·show Act.put _ (some 24) _ = _
           simp only [Act.put, List.setIfInBounds_toArray, List.set_cons_zero, List.set_cons_succ, i64_w, i32_w]
           rfl
          exact norm_ nm_ (hJ4_9_10 (v532, v538, gb540) _ ⟨hHeld, (by (with_reducible repeat (first | apply Kd.N_alloc | apply Kd.N_drewN | apply Kd.N_drew)); exact Kd.N_mono HO533.out (fun _ hk => ⟨hk.1.1, ⟨hk.2, ⟨hk.1.2.1, ⟨hk.1.2.2.1, hk.1.2.2.2⟩⟩⟩⟩)), (aN_ HO539.out), (aG_ BK526.out), (aG_ BK527.out), (aG_ BK540.out), GW540.out, GE540.out, NB526_540.out, NB540_526.out, NB527_540.out, NB540_527.out, ab16_⟩)
         ·skip
          refine box_step ?hg (N := 4) ?hd (cs := #[.int .i64 0, .int .i64 0, .slice none 0 0]) (t := 32) ?hr ?_; (case hd => rfl); (case hg => rfl); (case hr => first | (go_simp; done) | (go_simp; rfl))
          intro gb541 hg w21 hbox hb
          replace HO533 := am (Kd.N_below (Kd.N_elderB (aN_ HO533.out) gb541 (Nat.le_of_eq hg.symm)) hb)
          have BK541 := am (hbox)
          have GW541 := am ((by rw [hg]; exact (below_size ab16_) : w.heap.size ≤ gb541))
          have GE541 := am ((by rw [hg]; exact (below_size ab16_) : w.heap.size ≤ gb541))
          replace HB := am (below_step ab16_ hb)
          have NB526_541 := am ((by rw [hg]; exact Nat.ne_of_lt (blt_ BK526.out) : gb526 ≠ gb541))
          have NB541_526 := am ((by rw [hg]; exact Nat.ne_of_gt (blt_ BK526.out) : gb541 ≠ gb526))
          replace BK526 := am (bbl_ BK526.out hb)
          have NB527_541 := am ((by rw [hg]; exact Nat.ne_of_lt (blt_ BK527.out) : gb527 ≠ gb541))
          have NB541_527 := am ((by rw [hg]; exact Nat.ne_of_gt (blt_ BK527.out) : gb541 ≠ gb527))
          replace BK527 := am (bbl_ BK527.out hb)
          have NB540_541 := am ((by rw [hg]; exact Nat.ne_of_lt (blt_ BK540.out) : gb540 ≠ gb541))
          have NB541_540 := am ((by rw [hg]; exact Nat.ne_of_gt (blt_ BK540.out) : gb541 ≠ gb540))
          replace BK540 := am (bbl_ BK540.out hb)
          clear hb hbox hg
          refine hK.out _ _ (hS0_ _ BK526.out HB.out) (fun hHeld => ?_)
          clear hK K
          refine norm_ (a' := ?_) ?_ ?_
          rotate_left
          ·show Act.put _ (some 4) _ = _
           simp only [Act.put, List.setIfInBounds_toArray, List.set_cons_zero, List.set_cons_succ, i64_w, i32_w]
           rfl
          exact norm_ nm_ (hJ4_10_11 (v532, gb540, gb541) _ ⟨hHeld, (by (with_reducible repeat (first | apply Kd.N_alloc | apply Kd.N_drewN | apply Kd.N_drew)); exact Kd.N_mono HO533.out (fun _ hk => ⟨hk.1.1, ⟨hk.1.2.1, ⟨hk.1.2.2.1, ⟨hk.1.2.2.2, hk.2⟩⟩⟩⟩)), (aG_ BK526.out), (aG_ BK527.out), (aG_ BK540.out), (aG_ BK541.out), GW540.out, GE540.out, NB526_540.out, NB540_526.out, NB527_540.out, NB540_527.out, NB541_540.out, NB540_541.out, GW541.out, GE541.out, NB526_541.out, NB541_526.out, NB527_541.out, NB541_527.out, ab8_⟩)
       ·skip
        rintro ⟨v532, v538⟩ w20 ⟨hS_, h0_, h1_, h2_, h3_, h4_⟩
        have HO533 : Aside0 (Kd.N k32 32 w20 w.heap.size (fun k_ => (w.heap.size ≤ k_) ∧ some k_ ≠ (v538 : Value).ownBlock ∧ k_ ≠ gb526 ∧ k_ ≠ gb527) v532 t531) := ⟨h0_⟩
        have HO539 : Aside0 (Kd.N k32 32 w20 w.heap.size (fun k_ => (w.heap.size ≤ k_) ∧ some k_ ≠ (v532 : Value).ownBlock ∧ k_ ≠ gb526 ∧ k_ ≠ gb527) v538 t537) := ⟨h1_⟩
        replace BK526 : Aside0 (w20.heap[gb526]? = some (.cells #[.int .i64 a0_0, .int .i64 a0_1, .slice (some ad528) l0_2.length c0_2] 32 (0, 0))) := ⟨h2_⟩
        replace BK527 : Aside0 (w20.heap[gb527]? = some (.cells #[.int .i64 0, .int .i64 0, .slice none 0 0] 32 (0, 0))) := ⟨h3_⟩
        replace HB : Aside0 (Below w.heap.size w w20) := ⟨h4_⟩
        clear h0_ h1_ h2_ h3_ h4_
        have hHeld := hS0_ _ BK526.out HB.out
        refine norm_ (a' := ?_) ?_ ?_
        rotate_left
        ·simp only [putAll, Act.put, List.setIfInBounds_toArray, List.set_cons_zero, List.set_cons_succ]
         rfl
        refine two_ (i := 10) (j := 11) (Ni := some 3) (Nj := some 4) #[true, true, true, true, true, true, true, true, true, true, true, false, false, false] #[true, true, true, true, true, true, true, true, true, true, false, true, false, false] rfl rfl rfl rfl (two_of HT_.out (by kernel_rfl)) (by decide) (by decide) (fun K hK => ?_) (fun K hK => ?_)
        ·skip
         refine box_step ?hg (N := 3) ?hd (cs := #[.int .i64 0, .int .i64 0, .slice none 0 0]) (t := 32) ?hr ?_; (case hd => rfl); (case hg => rfl); (case hr => first | (go_simp; done) | (go_simp; rfl))
         intro gb540 hg w21 hbox hb
         replace HO533 := am (Kd.N_below (Kd.N_elderB (aN_ HO533.out) gb540 (Nat.le_of_eq hg.symm)) hb)
         replace HO539 := am (Kd.N_below (Kd.N_elderB (aN_ HO539.out) gb540 (Nat.le_of_eq hg.symm)) hb)
         have BK540 := am (hbox)
         have GW540 := am ((by rw [hg]; exact (below_size ab12_) : w.heap.size ≤ gb540))
         have GE540 := am ((by rw [hg]; exact (below_size ab12_) : w.heap.size ≤ gb540))
         replace HB := am (below_step ab12_ hb)
         have NB526_540 := am ((by rw [hg]; exact Nat.ne_of_lt (blt_ BK526.out) : gb526 ≠ gb540))
         have NB540_526 := am ((by rw [hg]; exact Nat.ne_of_gt (blt_ BK526.out) : gb540 ≠ gb526))
         replace BK526 := am (bbl_ BK526.out hb)
         have NB527_540 := am ((by rw [hg]; exact Nat.ne_of_lt (blt_ BK527.out) : gb527 ≠ gb540))
         have NB540_527 := am ((by rw [hg]; exact Nat.ne_of_gt (blt_ BK527.out) : gb540 ≠ gb527))
         replace BK527 := am (bbl_ BK527.out hb)
         clear hb hbox hg
         refine hK.out _ _ (hS0_ _ BK526.out HB.out) (fun hHeld => ?_)
         clear hK K
         refine norm_ (a' := ?_) ?_ ?_
         rotate_left
         ·show Act.put _ (some 3) _ = _
          simp only [Act.put, List.setIfInBounds_toArray, List.set_cons_zero, List.set_cons_succ, i64_w, i32_w]
          rfl
         exact norm_ nm_ (hJ4_9_10 (v532, v538, gb540) _ ⟨hHeld, (by (with_reducible repeat (first | apply Kd.N_alloc | apply Kd.N_drewN | apply Kd.N_drew)); exact Kd.N_mono HO533.out (fun _ hk => ⟨hk.1.1, ⟨hk.1.2.1, ⟨hk.1.2.2.1, ⟨hk.1.2.2.2, hk.2⟩⟩⟩⟩)), (by (with_reducible repeat (first | apply Kd.N_alloc | apply Kd.N_drewN | apply Kd.N_drew)); exact Kd.N_mono HO539.out (fun _ hk => ⟨hk.1.1, ⟨hk.1.2.1, ⟨hk.1.2.2.1, ⟨hk.1.2.2.2, hk.2⟩⟩⟩⟩)), (aG_ BK526.out), (aG_ BK527.out), (aG_ BK540.out), GW540.out, GE540.out, NB526_540.out, NB540_526.out, NB527_540.out, NB540_527.out, ab16_⟩)
        ·skip
         refine box_step ?hg (N := 4) ?hd (cs := #[.int .i64 0, .int .i64 0, .slice none 0 0]) (t := 32) ?hr ?_; (case hd => rfl); (case hg => rfl); (case hr => first | (go_simp; done) | (go_simp; rfl))
         intro gb541 hg w21 hbox hb
         replace HO533 := am (Kd.N_below (Kd.N_elderB (aN_ HO533.out) gb541 (Nat.le_of_eq hg.symm)) hb)
         replace HO539 := am (Kd.N_below (Kd.N_elderB (aN_ HO539.out) gb541 (Nat.le_of_eq hg.symm)) hb)
         have BK541 := am (hbox)
         have GW541 := am ((by rw [hg]; exact (below_size ab12_) : w.heap.size ≤ gb541))
         have GE541 := am ((by rw [hg]; exact (below_size ab12_) : w.heap.size ≤ gb541))
         replace HB := am (below_step ab12_ hb)
         have NB526_541 := am ((by rw [hg]; exact Nat.ne_of_lt (blt_ BK526.out) : gb526 ≠ gb541))
         have NB541_526 := am ((by rw [hg]; exact Nat.ne_of_gt (blt_ BK526.out) : gb541 ≠ gb526))
         replace BK526 := am (bbl_ BK526.out hb)
         have NB527_541 := am ((by rw [hg]; exact Nat.ne_of_lt (blt_ BK527.out) : gb527 ≠ gb541))
         have NB541_527 := am ((by rw [hg]; exact Nat.ne_of_gt (blt_ BK527.out) : gb541 ≠ gb527))
         replace BK527 := am (bbl_ BK527.out hb)
         clear hb hbox hg
         refine hK.out _ _ (hS0_ _ BK526.out HB.out) (fun hHeld => ?_)
         clear hK K
         refine norm_ (a' := ?_) ?_ ?_
         rotate_left
         ·show Act.put _ (some 4) _ = _
          simp only [Act.put, List.setIfInBounds_toArray, List.set_cons_zero, List.set_cons_succ, i64_w, i32_w]
          rfl
         exact norm_ nm_ (hJ4_9_11 (v532, v538, gb541) _ ⟨hHeld, (by (with_reducible repeat (first | apply Kd.N_alloc | apply Kd.N_drewN | apply Kd.N_drew)); exact Kd.N_mono HO533.out (fun _ hk => ⟨hk.1.1, ⟨hk.1.2.1, ⟨hk.1.2.2.1, ⟨hk.1.2.2.2, hk.2⟩⟩⟩⟩)), (by (with_reducible repeat (first | apply Kd.N_alloc | apply Kd.N_drewN | apply Kd.N_drew)); exact Kd.N_mono HO539.out (fun _ hk => ⟨hk.1.1, ⟨hk.1.2.1, ⟨hk.1.2.2.1, ⟨hk.1.2.2.2, hk.2⟩⟩⟩⟩)), (aG_ BK526.out), (aG_ BK527.out), (aG_ BK541.out), GW541.out, GE541.out, NB526_541.out, NB541_526.out, NB527_541.out, NB541_527.out, ab17_⟩)
      ·skip
       rintro ⟨v532, gb540, gb541⟩ w21 ⟨hS_, h0_, h1_, h2_, h3_, h4_, h5_, h6_, h7_, h8_, h9_, h10_, h11_, h12_, h13_, h14_, h15_, h16_, h17_, h18_, h19_⟩
       have HO533 : Aside0 (Kd.N k32 32 w21 w.heap.size (fun k_ => (w.heap.size ≤ k_) ∧ k_ ≠ gb526 ∧ k_ ≠ gb527 ∧ k_ ≠ gb540 ∧ k_ ≠ gb541) v532 t531) := ⟨h0_⟩
       replace BK526 : Aside0 (w21.heap[gb526]? = some (.cells #[.int .i64 a0_0, .int .i64 a0_1, .slice (some ad528) l0_2.length c0_2] 32 (0, 0))) := ⟨h1_⟩
       replace BK527 : Aside0 (w21.heap[gb527]? = some (.cells #[.int .i64 0, .int .i64 0, .slice none 0 0] 32 (0, 0))) := ⟨h2_⟩
       have BK540 : Aside0 (w21.heap[gb540]? = some (.cells #[.int .i64 0, .int .i64 0, .slice none 0 0] 32 (0, 0))) := ⟨h3_⟩
       have BK541 : Aside0 (w21.heap[gb541]? = some (.cells #[.int .i64 0, .int .i64 0, .slice none 0 0] 32 (0, 0))) := ⟨h4_⟩
       have GW540 : Aside0 (w.heap.size ≤ gb540) := ⟨h5_⟩
       have GE540 : Aside0 (w.heap.size ≤ gb540) := ⟨h6_⟩
       have NB526_540 : Aside0 (gb526 ≠ gb540) := ⟨h7_⟩
       have NB540_526 : Aside0 (gb540 ≠ gb526) := ⟨h8_⟩
       have NB527_540 : Aside0 (gb527 ≠ gb540) := ⟨h9_⟩
       have NB540_527 : Aside0 (gb540 ≠ gb527) := ⟨h10_⟩
       have NB541_540 : Aside0 (gb541 ≠ gb540) := ⟨h11_⟩
       have NB540_541 : Aside0 (gb540 ≠ gb541) := ⟨h12_⟩
       have GW541 : Aside0 (w.heap.size ≤ gb541) := ⟨h13_⟩
       have GE541 : Aside0 (w.heap.size ≤ gb541) := ⟨h14_⟩
       have NB526_541 : Aside0 (gb526 ≠ gb541) := ⟨h15_⟩
       have NB541_526 : Aside0 (gb541 ≠ gb526) := ⟨h16_⟩
       have NB527_541 : Aside0 (gb527 ≠ gb541) := ⟨h17_⟩
       have NB541_527 : Aside0 (gb541 ≠ gb527) := ⟨h18_⟩
       replace HB : Aside0 (Below w.heap.size w w21) := ⟨h19_⟩
       clear h0_ h1_ h2_ h3_ h4_ h5_ h6_ h7_ h8_ h9_ h10_ h11_ h12_ h13_ h14_ h15_ h16_ h17_ h18_ h19_
       have hHeld := hS0_ _ BK526.out HB.out
       refine norm_ (a' := ?_) ?_ ?_
       rotate_left
       ·simp only [putAll, Act.put, List.setIfInBounds_toArray, List.set_cons_zero, List.set_cons_succ]
        rfl
       refine one_ (i := 9) (N := some 24) #[true, true, true, true, true, true, true, true, true, true, true, true, false, false] rfl rfl (one_of HT_.out (by kernel_rfl)) (by decide) (fun K hK => ?_)
       refine goes_ Try.func78 (by kernel_rfl) rfl #[.agg #[.int .i64 ((rd_T32 l0_2 1).f0), .int .i64 ((rd_T32 l0_2 1).f1), .slice A534_2 ((rd_T32 l0_2 1).f2).length c534_2]] (by rfl) rfl rfl ab1_ ?_
       with_reducible refine (ih k (by omega) ((rd_T32 l0_2 1).f0) ((rd_T32 l0_2 1).f1) _ _ ((rd_T32 l0_2 1).f2) t535 t536 t537 _ (aC_ (Kd.C_below HR534_2.out HB.out)) HC534_2.out A11.out).mono ?_
       rintro e w22 ⟨v538, rfl, ho0, hb⟩
       refine ⟨_, rfl, ?_⟩
       have HO539 := am (Kd.N_lower (Kd.N_mono (ok' := fun k_ => (w.heap.size ≤ k_) ∧ some k_ ≠ (v532 : Value).ownBlock ∧ k_ ≠ gb526 ∧ k_ ≠ gb527 ∧ k_ ≠ gb540 ∧ k_ ≠ gb541) ho0 (fun k_ hk_ => ⟨(Nat.le_trans (below_size ab8_) hk_), (Kd.fresh' (Kd.N_lt (aN_ HO533.out)) k_ hk_), (frb_ BK526.out k_ hk_), (frb_ BK527.out k_ hk_), (frb_ BK540.out k_ hk_), (frb_ BK541.out k_ hk_)⟩)) (below_size ab8_))
       replace HO533 := am (Kd.N_elder' (aN_ HO533.out) (by first | exact Kd.N_base ho0 | exact Kd.N_base (Kd.R_N ho0)) hb)
       replace BK526 := am (bbl_ BK526.out hb)
       replace BK527 := am (bbl_ BK527.out hb)
       replace BK540 := am (bbl_ BK540.out hb)
       replace BK541 := am (bbl_ BK541.out hb)
       replace HB := am (below_step ab8_ hb)
       (try clear hb)
       (try clear hb2)
       (try clear hk)
       (try clear hi)
       (try clear ho0)
       refine hK.out _ _ (hS0_ _ BK526.out HB.out) (fun hHeld => ?_)
       clear hK K
       refine norm_ (a' := ?_) ?_ ?_
       rotate_left
       ·show Act.put _ (some 24) _ = _
        simp only [Act.put, List.setIfInBounds_toArray, List.set_cons_zero, List.set_cons_succ, i64_w, i32_w]
        rfl
       exact norm_ nm_ (hJ4_9_10_11 (v532, v538, gb540, gb541) _ ⟨hHeld, (by (with_reducible repeat (first | apply Kd.N_alloc | apply Kd.N_drewN | apply Kd.N_drew)); exact Kd.N_mono HO533.out (fun _ hk => ⟨hk.1.1, ⟨hk.2, ⟨hk.1.2.1, ⟨hk.1.2.2.1, ⟨hk.1.2.2.2.1, hk.1.2.2.2.2⟩⟩⟩⟩⟩)), (aN_ HO539.out), (aG_ BK526.out), (aG_ BK527.out), (aG_ BK540.out), (aG_ BK541.out), GW540.out, GE540.out, NB526_540.out, NB540_526.out, NB527_540.out, NB540_527.out, NB541_540.out, NB540_541.out, GW541.out, GE541.out, NB526_541.out, NB541_526.out, NB527_541.out, NB541_527.out, ab8_⟩)
     ·skip
      rintro ⟨v532, v538, gb541⟩ w21 ⟨hS_, h0_, h1_, h2_, h3_, h4_, h5_, h6_, h7_, h8_, h9_, h10_, h11_⟩
      have HO533 : Aside0 (Kd.N k32 32 w21 w.heap.size (fun k_ => (w.heap.size ≤ k_) ∧ some k_ ≠ (v538 : Value).ownBlock ∧ k_ ≠ gb526 ∧ k_ ≠ gb527 ∧ k_ ≠ gb541) v532 t531) := ⟨h0_⟩
      have HO539 : Aside0 (Kd.N k32 32 w21 w.heap.size (fun k_ => (w.heap.size ≤ k_) ∧ some k_ ≠ (v532 : Value).ownBlock ∧ k_ ≠ gb526 ∧ k_ ≠ gb527 ∧ k_ ≠ gb541) v538 t537) := ⟨h1_⟩
      replace BK526 : Aside0 (w21.heap[gb526]? = some (.cells #[.int .i64 a0_0, .int .i64 a0_1, .slice (some ad528) l0_2.length c0_2] 32 (0, 0))) := ⟨h2_⟩
      replace BK527 : Aside0 (w21.heap[gb527]? = some (.cells #[.int .i64 0, .int .i64 0, .slice none 0 0] 32 (0, 0))) := ⟨h3_⟩
      have BK541 : Aside0 (w21.heap[gb541]? = some (.cells #[.int .i64 0, .int .i64 0, .slice none 0 0] 32 (0, 0))) := ⟨h4_⟩
      have GW541 : Aside0 (w.heap.size ≤ gb541) := ⟨h5_⟩
      have GE541 : Aside0 (w.heap.size ≤ gb541) := ⟨h6_⟩
      have NB526_541 : Aside0 (gb526 ≠ gb541) := ⟨h7_⟩
      have NB541_526 : Aside0 (gb541 ≠ gb526) := ⟨h8_⟩
      have NB527_541 : Aside0 (gb527 ≠ gb541) := ⟨h9_⟩
      have NB541_527 : Aside0 (gb541 ≠ gb527) := ⟨h10_⟩
      replace HB : Aside0 (Below w.heap.size w w21) := ⟨h11_⟩
      clear h0_ h1_ h2_ h3_ h4_ h5_ h6_ h7_ h8_ h9_ h10_ h11_
      have hHeld := hS0_ _ BK526.out HB.out
      refine norm_ (a' := ?_) ?_ ?_
      rotate_left
      ·simp only [putAll, Act.put, List.setIfInBounds_toArray, List.set_cons_zero, List.set_cons_succ]
       rfl
      refine one_ (i := 10) (N := some 3) #[true, true, true, true, true, true, true, true, true, true, true, true, false, false] rfl rfl (one_of HT_.out (by kernel_rfl)) (by decide) (fun K hK => ?_)
      refine box_step ?hg (N := 3) ?hd (cs := #[.int .i64 0, .int .i64 0, .slice none 0 0]) (t := 32) ?hr ?_; (case hd => rfl); (case hg => rfl); (case hr => first | (go_simp; done) | (go_simp; rfl))
      intro gb540 hg w22 hbox hb
      replace HO533 := am (Kd.N_below (Kd.N_elderB (aN_ HO533.out) gb540 (Nat.le_of_eq hg.symm)) hb)
      replace HO539 := am (Kd.N_below (Kd.N_elderB (aN_ HO539.out) gb540 (Nat.le_of_eq hg.symm)) hb)
      have BK540 := am (hbox)
      have GW540 := am ((by rw [hg]; exact (below_size ab17_) : w.heap.size ≤ gb540))
      have GE540 := am ((by rw [hg]; exact (below_size ab17_) : w.heap.size ≤ gb540))
      replace HB := am (below_step ab17_ hb)
      have NB526_540 := am ((by rw [hg]; exact Nat.ne_of_lt (blt_ BK526.out) : gb526 ≠ gb540))
      have NB540_526 := am ((by rw [hg]; exact Nat.ne_of_gt (blt_ BK526.out) : gb540 ≠ gb526))
      replace BK526 := am (bbl_ BK526.out hb)
      have NB527_540 := am ((by rw [hg]; exact Nat.ne_of_lt (blt_ BK527.out) : gb527 ≠ gb540))
      have NB540_527 := am ((by rw [hg]; exact Nat.ne_of_gt (blt_ BK527.out) : gb540 ≠ gb527))
      replace BK527 := am (bbl_ BK527.out hb)
      have NB541_540 := am ((by rw [hg]; exact Nat.ne_of_lt (blt_ BK541.out) : gb541 ≠ gb540))
      have NB540_541 := am ((by rw [hg]; exact Nat.ne_of_gt (blt_ BK541.out) : gb540 ≠ gb541))
      replace BK541 := am (bbl_ BK541.out hb)
      clear hb hbox hg
      refine hK.out _ _ (hS0_ _ BK526.out HB.out) (fun hHeld => ?_)
      clear hK K
      refine norm_ (a' := ?_) ?_ ?_
      rotate_left
      ·show Act.put _ (some 3) _ = _
       simp only [Act.put, List.setIfInBounds_toArray, List.set_cons_zero, List.set_cons_succ, i64_w, i32_w]
       rfl
      exact norm_ nm_ (hJ4_9_10_11 (v532, v538, gb540, gb541) _ ⟨hHeld, (by (with_reducible repeat (first | apply Kd.N_alloc | apply Kd.N_drewN | apply Kd.N_drew)); exact Kd.N_mono HO533.out (fun _ hk => ⟨hk.1.1, ⟨hk.1.2.1, ⟨hk.1.2.2.1, ⟨hk.1.2.2.2.1, ⟨hk.2, hk.1.2.2.2.2⟩⟩⟩⟩⟩)), (by (with_reducible repeat (first | apply Kd.N_alloc | apply Kd.N_drewN | apply Kd.N_drew)); exact Kd.N_mono HO539.out (fun _ hk => ⟨hk.1.1, ⟨hk.1.2.1, ⟨hk.1.2.2.1, ⟨hk.1.2.2.2.1, ⟨hk.2, hk.1.2.2.2.2⟩⟩⟩⟩⟩)), (aG_ BK526.out), (aG_ BK527.out), (aG_ BK540.out), (aG_ BK541.out), GW540.out, GE540.out, NB526_540.out, NB540_526.out, NB527_540.out, NB540_527.out, NB541_540.out, NB540_541.out, GW541.out, GE541.out, NB526_541.out, NB541_526.out, NB527_541.out, NB541_527.out, ab59_⟩)
    ·skip
     rintro ⟨v532, v538, gb540⟩ w21 ⟨hS_, h0_, h1_, h2_, h3_, h4_, h5_, h6_, h7_, h8_, h9_, h10_, h11_⟩
     have HO533 : Aside0 (Kd.N k32 32 w21 w.heap.size (fun k_ => (w.heap.size ≤ k_) ∧ some k_ ≠ (v538 : Value).ownBlock ∧ k_ ≠ gb526 ∧ k_ ≠ gb527 ∧ k_ ≠ gb540) v532 t531) := ⟨h0_⟩
     have HO539 : Aside0 (Kd.N k32 32 w21 w.heap.size (fun k_ => (w.heap.size ≤ k_) ∧ some k_ ≠ (v532 : Value).ownBlock ∧ k_ ≠ gb526 ∧ k_ ≠ gb527 ∧ k_ ≠ gb540) v538 t537) := ⟨h1_⟩
     replace BK526 : Aside0 (w21.heap[gb526]? = some (.cells #[.int .i64 a0_0, .int .i64 a0_1, .slice (some ad528) l0_2.length c0_2] 32 (0, 0))) := ⟨h2_⟩
     replace BK527 : Aside0 (w21.heap[gb527]? = some (.cells #[.int .i64 0, .int .i64 0, .slice none 0 0] 32 (0, 0))) := ⟨h3_⟩
     have BK540 : Aside0 (w21.heap[gb540]? = some (.cells #[.int .i64 0, .int .i64 0, .slice none 0 0] 32 (0, 0))) := ⟨h4_⟩
     have GW540 : Aside0 (w.heap.size ≤ gb540) := ⟨h5_⟩
     have GE540 : Aside0 (w.heap.size ≤ gb540) := ⟨h6_⟩
     have NB526_540 : Aside0 (gb526 ≠ gb540) := ⟨h7_⟩
     have NB540_526 : Aside0 (gb540 ≠ gb526) := ⟨h8_⟩
     have NB527_540 : Aside0 (gb527 ≠ gb540) := ⟨h9_⟩
     have NB540_527 : Aside0 (gb540 ≠ gb527) := ⟨h10_⟩
     replace HB : Aside0 (Below w.heap.size w w21) := ⟨h11_⟩
     clear h0_ h1_ h2_ h3_ h4_ h5_ h6_ h7_ h8_ h9_ h10_ h11_
     have hHeld := hS0_ _ BK526.out HB.out
     refine norm_ (a' := ?_) ?_ ?_
     rotate_left
     ·simp only [putAll, Act.put, List.setIfInBounds_toArray, List.set_cons_zero, List.set_cons_succ]
      rfl
     refine one_ (i := 11) (N := some 4) #[true, true, true, true, true, true, true, true, true, true, true, true, false, false] rfl rfl (one_of HT_.out (by kernel_rfl)) (by decide) (fun K hK => ?_)
     refine box_step ?hg (N := 4) ?hd (cs := #[.int .i64 0, .int .i64 0, .slice none 0 0]) (t := 32) ?hr ?_; (case hd => rfl); (case hg => rfl); (case hr => first | (go_simp; done) | (go_simp; rfl))
     intro gb541 hg w22 hbox hb
     replace HO533 := am (Kd.N_below (Kd.N_elderB (aN_ HO533.out) gb541 (Nat.le_of_eq hg.symm)) hb)
     replace HO539 := am (Kd.N_below (Kd.N_elderB (aN_ HO539.out) gb541 (Nat.le_of_eq hg.symm)) hb)
     have BK541 := am (hbox)
     have GW541 := am ((by rw [hg]; exact (below_size ab16_) : w.heap.size ≤ gb541))
     have GE541 := am ((by rw [hg]; exact (below_size ab16_) : w.heap.size ≤ gb541))
     replace HB := am (below_step ab16_ hb)
     have NB526_541 := am ((by rw [hg]; exact Nat.ne_of_lt (blt_ BK526.out) : gb526 ≠ gb541))
     have NB541_526 := am ((by rw [hg]; exact Nat.ne_of_gt (blt_ BK526.out) : gb541 ≠ gb526))
     replace BK526 := am (bbl_ BK526.out hb)
     have NB527_541 := am ((by rw [hg]; exact Nat.ne_of_lt (blt_ BK527.out) : gb527 ≠ gb541))
     have NB541_527 := am ((by rw [hg]; exact Nat.ne_of_gt (blt_ BK527.out) : gb541 ≠ gb527))
     replace BK527 := am (bbl_ BK527.out hb)
     have NB540_541 := am ((by rw [hg]; exact Nat.ne_of_lt (blt_ BK540.out) : gb540 ≠ gb541))
     have NB541_540 := am ((by rw [hg]; exact Nat.ne_of_gt (blt_ BK540.out) : gb541 ≠ gb540))
     replace BK540 := am (bbl_ BK540.out hb)
     clear hb hbox hg
     refine hK.out _ _ (hS0_ _ BK526.out HB.out) (fun hHeld => ?_)
     clear hK K
     refine norm_ (a' := ?_) ?_ ?_
     rotate_left
     ·show Act.put _ (some 4) _ = _
      simp only [Act.put, List.setIfInBounds_toArray, List.set_cons_zero, List.set_cons_succ, i64_w, i32_w]
      rfl
     exact norm_ nm_ (hJ4_9_10_11 (v532, v538, gb540, gb541) _ ⟨hHeld, (by (with_reducible repeat (first | apply Kd.N_alloc | apply Kd.N_drewN | apply Kd.N_drew)); exact Kd.N_mono HO533.out (fun _ hk => ⟨hk.1.1, ⟨hk.1.2.1, ⟨hk.1.2.2.1, ⟨hk.1.2.2.2.1, ⟨hk.1.2.2.2.2, hk.2⟩⟩⟩⟩⟩)), (by (with_reducible repeat (first | apply Kd.N_alloc | apply Kd.N_drewN | apply Kd.N_drew)); exact Kd.N_mono HO539.out (fun _ hk => ⟨hk.1.1, ⟨hk.1.2.1, ⟨hk.1.2.2.1, ⟨hk.1.2.2.2.1, ⟨hk.1.2.2.2.2, hk.2⟩⟩⟩⟩⟩)), (aG_ BK526.out), (aG_ BK527.out), (aG_ BK540.out), (aG_ BK541.out), GW540.out, GE540.out, NB526_540.out, NB540_526.out, NB527_540.out, NB540_527.out, NB541_540.out, NB540_541.out, GW541.out, GE541.out, NB526_541.out, NB541_526.out, NB527_541.out, NB541_527.out, ab8_⟩)
   rintro ⟨v532, v538, gb540, gb541⟩ w22 ⟨hS_, h0_, h1_, h2_, h3_, h4_, h5_, h6_, h7_, h8_, h9_, h10_, h11_, h12_, h13_, h14_, h15_, h16_, h17_, h18_, h19_, h20_⟩
   have HO533 : Aside0 (Kd.N k32 32 w22 w.heap.size (fun k_ => (w.heap.size ≤ k_) ∧ some k_ ≠ (v538 : Value).ownBlock ∧ k_ ≠ gb526 ∧ k_ ≠ gb527 ∧ k_ ≠ gb540 ∧ k_ ≠ gb541) v532 t531) := ⟨h0_⟩
   have HO539 : Aside0 (Kd.N k32 32 w22 w.heap.size (fun k_ => (w.heap.size ≤ k_) ∧ some k_ ≠ (v532 : Value).ownBlock ∧ k_ ≠ gb526 ∧ k_ ≠ gb527 ∧ k_ ≠ gb540 ∧ k_ ≠ gb541) v538 t537) := ⟨h1_⟩
   replace BK526 : Aside0 (w22.heap[gb526]? = some (.cells #[.int .i64 a0_0, .int .i64 a0_1, .slice (some ad528) l0_2.length c0_2] 32 (0, 0))) := ⟨h2_⟩
   replace BK527 : Aside0 (w22.heap[gb527]? = some (.cells #[.int .i64 0, .int .i64 0, .slice none 0 0] 32 (0, 0))) := ⟨h3_⟩
   have BK540 : Aside0 (w22.heap[gb540]? = some (.cells #[.int .i64 0, .int .i64 0, .slice none 0 0] 32 (0, 0))) := ⟨h4_⟩
   have BK541 : Aside0 (w22.heap[gb541]? = some (.cells #[.int .i64 0, .int .i64 0, .slice none 0 0] 32 (0, 0))) := ⟨h5_⟩
   have GW540 : Aside0 (w.heap.size ≤ gb540) := ⟨h6_⟩
   have GE540 : Aside0 (w.heap.size ≤ gb540) := ⟨h7_⟩
   have NB526_540 : Aside0 (gb526 ≠ gb540) := ⟨h8_⟩
   have NB540_526 : Aside0 (gb540 ≠ gb526) := ⟨h9_⟩
   have NB527_540 : Aside0 (gb527 ≠ gb540) := ⟨h10_⟩
   have NB540_527 : Aside0 (gb540 ≠ gb527) := ⟨h11_⟩
   have NB541_540 : Aside0 (gb541 ≠ gb540) := ⟨h12_⟩
   have NB540_541 : Aside0 (gb540 ≠ gb541) := ⟨h13_⟩
   have GW541 : Aside0 (w.heap.size ≤ gb541) := ⟨h14_⟩
   have GE541 : Aside0 (w.heap.size ≤ gb541) := ⟨h15_⟩
   have NB526_541 : Aside0 (gb526 ≠ gb541) := ⟨h16_⟩
   have NB541_526 : Aside0 (gb541 ≠ gb526) := ⟨h17_⟩
   have NB527_541 : Aside0 (gb527 ≠ gb541) := ⟨h18_⟩
   have NB541_527 : Aside0 (gb541 ≠ gb527) := ⟨h19_⟩
   replace HB : Aside0 (Below w.heap.size w w22) := ⟨h20_⟩
   clear h0_ h1_ h2_ h3_ h4_ h5_ h6_ h7_ h8_ h9_ h10_ h11_ h12_ h13_ h14_ h15_ h16_ h17_ h18_ h19_ h20_
   have hHeld := hS0_ _ BK526.out HB.out
   obtain ⟨Ao25, co25, eo25⟩ := Kd.N_slice HO533.out
   (first | subst eo25 | (injection eo25 with f1_ f2_ f3_; have f4_ := f1_.symm; have f5_ := f3_.symm; clear f1_ f2_ f3_; subst f4_; subst f5_))
   obtain ⟨Ao29, co29, eo29⟩ := Kd.N_slice HO539.out
   (first | subst eo29 | (injection eo29 with f1_ f2_ f3_; have f4_ := f1_.symm; have f5_ := f3_.symm; clear f1_ f2_ f3_; subst f4_; subst f5_))
   refine norm_ (a' := ?_) ?_ ?_
   rotate_left
   ·simp only [putAll, Act.put, List.setIfInBounds_toArray, List.set_cons_zero, List.set_cons_succ]
    rfl
   refine one_ (i := 12) (N := none) #[true, true, true, true, true, true, true, true, true, true, true, true, true, false] rfl rfl (one_of HT_.out (by kernel_rfl)) (by decide) (fun K hK => ?_)
   have hs23 : w22.cell? ⟨gb540, 0, none⟩ = some (.int .i64 0) := (blk_cell BK540.out 0).trans rfl
   have hfs23 := blk_frozen BK540.out 0
   have hns23_0 := NB526_540.out
   have hns23_1 := NB527_540.out
   have hns23_3 := NB541_540.out
   have hms23_0 := NB540_526.out
   have hms23_1 := NB540_527.out
   have hms23_3 := NB540_541.out
   have hs24 : w22.cell? ⟨gb540, 1, none⟩ = some (.int .i64 0) := (blk_cell BK540.out 1).trans rfl
   have hfs24 := blk_frozen BK540.out 1
   have hns24_0 := NB526_540.out
   have hns24_1 := NB527_540.out
   have hns24_3 := NB541_540.out
   have hms24_0 := NB540_526.out
   have hms24_1 := NB540_527.out
   have hms24_3 := NB540_541.out
   have hs26 : w22.cell? ⟨gb540, 2, none⟩ = some (.slice none 0 0) := (blk_cell BK540.out 2).trans rfl
   have hfs26 := blk_frozen BK540.out 2
   have hns26_0 := NB526_540.out
   have hns26_1 := NB527_540.out
   have hns26_3 := NB541_540.out
   have hms26_0 := NB540_526.out
   have hms26_1 := NB540_527.out
   have hms26_3 := NB540_541.out
   refine skip_ (w1 := ?_) (by rfl) rfl ?_ ?_
   rotate_left
   ·go_simp
    rfl
   refine hK.out _ _ (hS0_ _ (blk_far (p := ⟨gb540, _, none⟩) (blk_far (p := ⟨gb540, _, none⟩) (blk_far (p := ⟨gb540, _, none⟩) BK526.out NB526_540.out _) NB526_540.out _) NB526_540.out _) (below_set (below_set (below_set HB.out GW540.out) GW540.out) GW540.out)) (fun hHeld => ?_)
   clear hK K
   refine one_ (i := 13) (N := none) #[true, true, true, true, true, true, true, true, true, true, true, true, true, true] rfl rfl (one_of HT_.out (by kernel_rfl)) (by decide) (fun K hK => ?_)
   have hs27 : w22.cell? ⟨gb541, 0, none⟩ = some (.int .i64 0) := (blk_cell BK541.out 0).trans rfl
   have hfs27 := blk_frozen BK541.out 0
   have hns27_0 := NB526_541.out
   have hns27_1 := NB527_541.out
   have hns27_2 := NB540_541.out
   have hms27_0 := NB541_526.out
   have hms27_1 := NB541_527.out
   have hms27_2 := NB541_540.out
   have hs28 : w22.cell? ⟨gb541, 1, none⟩ = some (.int .i64 0) := (blk_cell BK541.out 1).trans rfl
   have hfs28 := blk_frozen BK541.out 1
   have hns28_0 := NB526_541.out
   have hns28_1 := NB527_541.out
   have hns28_2 := NB540_541.out
   have hms28_0 := NB541_526.out
   have hms28_1 := NB541_527.out
   have hms28_2 := NB541_540.out
   have hs30 : w22.cell? ⟨gb541, 2, none⟩ = some (.slice none 0 0) := (blk_cell BK541.out 2).trans rfl
   have hfs30 := blk_frozen BK541.out 2
   have hns30_0 := NB526_541.out
   have hns30_1 := NB527_541.out
   have hns30_2 := NB540_541.out
   have hms30_0 := NB541_526.out
   have hms30_1 := NB541_527.out
   have hms30_2 := NB541_540.out
   refine skip_ (w1 := ?_) (by rfl) rfl ?_ ?_
   rotate_left
   ·go_simp
    rfl
   refine hK.out _ _ (hS0_ _ (blk_far (p := ⟨gb541, _, none⟩) (blk_far (p := ⟨gb541, _, none⟩) (blk_far (p := ⟨gb541, _, none⟩) (blk_far (p := ⟨gb540, _, none⟩) (blk_far (p := ⟨gb540, _, none⟩) (blk_far (p := ⟨gb540, _, none⟩) BK526.out NB526_540.out _) NB526_540.out _) NB526_540.out _) NB526_541.out _) NB526_541.out _) NB526_541.out _) (below_set (below_set (below_set (below_set (below_set (below_set HB.out GW540.out) GW540.out) GW540.out) GW541.out) GW541.out) GW541.out)) (fun hHeld => ?_)
   clear hK K
   refine done_ (done_of HT_.out (by kernel_rfl)) ?_
   go_upto_region 4 with (fail)
   go_cut [32] (fun v32 wc => ∃ (kq : Nat) (x32_11 : Bool), v32 = .bool x32_11 ∧ Aside0 (impl_exprFold.j0 kq x32_11 a0_0 a0_1 l0_2 t529 t530 t531 t535 t536 t537 = some (r1, r2, r3)) ∧ Aside0 (kq ≤ k) ∧ Aside0 (Kd.N k32 32 wc w.heap.size (fun k_ => (w.heap.size ≤ k_) ∧ some k_ ≠ ((.slice Ao29 t537.length co29) : Value).ownBlock ∧ k_ ≠ gb526 ∧ k_ ≠ gb527 ∧ k_ ≠ gb540 ∧ k_ ≠ gb541) (.slice Ao25 t531.length co25) t531) ∧ Aside0 (Kd.N k32 32 wc w.heap.size (fun k_ => (w.heap.size ≤ k_) ∧ some k_ ≠ ((.slice Ao25 t531.length co25) : Value).ownBlock ∧ k_ ≠ gb526 ∧ k_ ≠ gb527 ∧ k_ ≠ gb540 ∧ k_ ≠ gb541) (.slice Ao29 t537.length co29) t537) ∧ Aside0 (wc.heap[gb526]? = some (.cells #[.int .i64 a0_0, .int .i64 a0_1, (.slice (some ad528) l0_2.length c0_2)] 32 (0, 0))) ∧ Aside0 (wc.heap[gb527]? = some (.cells #[.int .i64 0, .int .i64 0, (.slice none 0 0)] 32 (0, 0))) ∧ Aside0 (wc.heap[gb540]? = some (.cells #[.int .i64 t529, .int .i64 t530, (.slice Ao25 t531.length co25)] 32 (0, 0))) ∧ Aside0 (wc.heap[gb541]? = some (.cells #[.int .i64 t535, .int .i64 t536, (.slice Ao29 t537.length co29)] 32 (0, 0))) ∧ Aside0 (Below w.heap.size w wc))
   case first =>
    have H := HC12.out
    clear HC12
    by_cases c31 : t529 = 0
    ·rw [if_pos c31] at H
     have c31b0 : (t529 == 0) = true := beq_iff_eq.mpr c31
     have c31b1 : (t529 != 0) = false := bne_eq_false_iff_eq.mpr c31
     clear c31
     (first | rw [c31b0] | (simp only [i64_w, i32_w]; rw [c31b0]) | skip)
     have H' := am H
     clear H
     have hnb32 := NB540_526.out
     have hnc32 := NB526_540.out
     have hnb33 := NB540_527.out
     have hnc33 := NB527_540.out
     have hnb34 := NB540_541.out
     have hnc34 := NB541_540.out
     obtain ⟨hcz35_0, hcz35_1, hcz35_2, hfz35_0, hfz35_1, hfz35_2⟩ := bcf3_ BK540.out
     have hnb36 := NB541_526.out
     have hnc36 := NB526_541.out
     have hnb37 := NB541_527.out
     have hnc37 := NB527_541.out
     obtain ⟨hcz38_0, hcz38_1, hcz38_2, hfz38_0, hfz38_1, hfz38_2⟩ := bcf3_ BK541.out
     go_wp2
     go_meet
     case rel => exact ⟨_, ((t535 == 0)), sd_, H', ⟨by first | omega | exact Nat.le_refl _⟩, ⟨by (with_reducible repeat (first | apply Kd.N_alloc | apply Kd.N_drewN | apply Kd.N_drew)); exact Kd.N_mono (Kd.N_far (p := ⟨gb541, 2, none⟩) (Kd.N_far (p := ⟨gb541, 1, none⟩) (Kd.N_far (p := ⟨gb541, 0, none⟩) (Kd.N_far (p := ⟨gb540, 2, none⟩) (Kd.N_far (p := ⟨gb540, 1, none⟩) (Kd.N_far (p := ⟨gb540, 0, none⟩) (Kd.N_mono (Kd.N_mono HO533.out (fun k_ hk => (⟨hk, hk.2.2.2.2.1⟩ : _ ∧ k_ ≠ gb540))) (fun k_ hk => (⟨hk, hk.1.2.2.2.2.2⟩ : _ ∧ k_ ≠ gb541))) (fun _ hk => hk.1.2) (.int .i64 t529)) (fun _ hk => hk.1.2) (.int .i64 t530)) (fun _ hk => hk.1.2) (.slice Ao25 t531.length co25)) (fun _ hk => hk.2) (.int .i64 t535)) (fun _ hk => hk.2) (.int .i64 t536)) (fun _ hk => hk.2) (.slice Ao29 t537.length co29)) (fun _ hk => ⟨hk.1.1.1, ⟨hk.1.1.2.1, ⟨hk.1.1.2.2.1, ⟨hk.1.1.2.2.2.1, ⟨hk.1.1.2.2.2.2.1, hk.1.1.2.2.2.2.2⟩⟩⟩⟩⟩)⟩, ⟨by (with_reducible repeat (first | apply Kd.N_alloc | apply Kd.N_drewN | apply Kd.N_drew)); exact Kd.N_mono (Kd.N_far (p := ⟨gb541, 2, none⟩) (Kd.N_far (p := ⟨gb541, 1, none⟩) (Kd.N_far (p := ⟨gb541, 0, none⟩) (Kd.N_far (p := ⟨gb540, 2, none⟩) (Kd.N_far (p := ⟨gb540, 1, none⟩) (Kd.N_far (p := ⟨gb540, 0, none⟩) (Kd.N_mono (Kd.N_mono HO539.out (fun k_ hk => (⟨hk, hk.2.2.2.2.1⟩ : _ ∧ k_ ≠ gb540))) (fun k_ hk => (⟨hk, hk.1.2.2.2.2.2⟩ : _ ∧ k_ ≠ gb541))) (fun _ hk => hk.1.2) (.int .i64 t529)) (fun _ hk => hk.1.2) (.int .i64 t530)) (fun _ hk => hk.1.2) (.slice Ao25 t531.length co25)) (fun _ hk => hk.2) (.int .i64 t535)) (fun _ hk => hk.2) (.int .i64 t536)) (fun _ hk => hk.2) (.slice Ao29 t537.length co29)) (fun _ hk => ⟨hk.1.1.1, ⟨hk.1.1.2.1, ⟨hk.1.1.2.2.1, ⟨hk.1.1.2.2.2.1, ⟨hk.1.1.2.2.2.2.1, hk.1.1.2.2.2.2.2⟩⟩⟩⟩⟩)⟩, ⟨(blk_far (blk_far (blk_far (blk_far (blk_far (blk_far BK526.out NB526_540.out _) NB526_540.out _) NB526_540.out _) NB526_541.out _) NB526_541.out _) NB526_541.out _)⟩, ⟨(blk_far (blk_far (blk_far (blk_far (blk_far (blk_far BK527.out NB527_540.out _) NB527_540.out _) NB527_540.out _) NB527_541.out _) NB527_541.out _) NB527_541.out _)⟩, ⟨(blk_far (blk_far (blk_far (blk_put (blk_put (blk_put BK540.out 0 _ rfl) 1 _ rfl) 2 _ rfl) NB540_541.out _) NB540_541.out _) NB540_541.out _)⟩, ⟨(blk_put (blk_put (blk_put (blk_far (blk_far (blk_far BK541.out NB541_540.out _) NB541_540.out _) NB541_540.out _) 0 _ rfl) 1 _ rfl) 2 _ rfl)⟩, ⟨ab8_⟩⟩
    rw [if_neg c31] at H
    have c31b0 : (t529 == 0) = false := beq_eq_false_iff_ne.mpr c31
    have c31b1 : (t529 != 0) = true := bne_iff_ne.mpr c31
    (first | rw [c31b0] | (simp only [i64_w, i32_w]; rw [c31b0]) | skip)
    have H' := am H
    clear H
    have hnb39 := NB540_526.out
    have hnc39 := NB526_540.out
    have hnb40 := NB540_527.out
    have hnc40 := NB527_540.out
    have hnb41 := NB540_541.out
    have hnc41 := NB541_540.out
    obtain ⟨hcz42_0, hcz42_1, hcz42_2, hfz42_0, hfz42_1, hfz42_2⟩ := bcf3_ BK540.out
    go_wp2
    go_meet
    case rel => exact ⟨_, (false), sd_, H', ⟨by first | omega | exact Nat.le_refl _⟩, ⟨by (with_reducible repeat (first | apply Kd.N_alloc | apply Kd.N_drewN | apply Kd.N_drew)); exact Kd.N_mono (Kd.N_far (p := ⟨gb541, 2, none⟩) (Kd.N_far (p := ⟨gb541, 1, none⟩) (Kd.N_far (p := ⟨gb541, 0, none⟩) (Kd.N_far (p := ⟨gb540, 2, none⟩) (Kd.N_far (p := ⟨gb540, 1, none⟩) (Kd.N_far (p := ⟨gb540, 0, none⟩) (Kd.N_mono (Kd.N_mono HO533.out (fun k_ hk => (⟨hk, hk.2.2.2.2.1⟩ : _ ∧ k_ ≠ gb540))) (fun k_ hk => (⟨hk, hk.1.2.2.2.2.2⟩ : _ ∧ k_ ≠ gb541))) (fun _ hk => hk.1.2) (.int .i64 t529)) (fun _ hk => hk.1.2) (.int .i64 t530)) (fun _ hk => hk.1.2) (.slice Ao25 t531.length co25)) (fun _ hk => hk.2) (.int .i64 t535)) (fun _ hk => hk.2) (.int .i64 t536)) (fun _ hk => hk.2) (.slice Ao29 t537.length co29)) (fun _ hk => ⟨hk.1.1.1, ⟨hk.1.1.2.1, ⟨hk.1.1.2.2.1, ⟨hk.1.1.2.2.2.1, ⟨hk.1.1.2.2.2.2.1, hk.1.1.2.2.2.2.2⟩⟩⟩⟩⟩)⟩, ⟨by (with_reducible repeat (first | apply Kd.N_alloc | apply Kd.N_drewN | apply Kd.N_drew)); exact Kd.N_mono (Kd.N_far (p := ⟨gb541, 2, none⟩) (Kd.N_far (p := ⟨gb541, 1, none⟩) (Kd.N_far (p := ⟨gb541, 0, none⟩) (Kd.N_far (p := ⟨gb540, 2, none⟩) (Kd.N_far (p := ⟨gb540, 1, none⟩) (Kd.N_far (p := ⟨gb540, 0, none⟩) (Kd.N_mono (Kd.N_mono HO539.out (fun k_ hk => (⟨hk, hk.2.2.2.2.1⟩ : _ ∧ k_ ≠ gb540))) (fun k_ hk => (⟨hk, hk.1.2.2.2.2.2⟩ : _ ∧ k_ ≠ gb541))) (fun _ hk => hk.1.2) (.int .i64 t529)) (fun _ hk => hk.1.2) (.int .i64 t530)) (fun _ hk => hk.1.2) (.slice Ao25 t531.length co25)) (fun _ hk => hk.2) (.int .i64 t535)) (fun _ hk => hk.2) (.int .i64 t536)) (fun _ hk => hk.2) (.slice Ao29 t537.length co29)) (fun _ hk => ⟨hk.1.1.1, ⟨hk.1.1.2.1, ⟨hk.1.1.2.2.1, ⟨hk.1.1.2.2.2.1, ⟨hk.1.1.2.2.2.2.1, hk.1.1.2.2.2.2.2⟩⟩⟩⟩⟩)⟩, ⟨(blk_far (blk_far (blk_far (blk_far (blk_far (blk_far BK526.out NB526_540.out _) NB526_540.out _) NB526_540.out _) NB526_541.out _) NB526_541.out _) NB526_541.out _)⟩, ⟨(blk_far (blk_far (blk_far (blk_far (blk_far (blk_far BK527.out NB527_540.out _) NB527_540.out _) NB527_540.out _) NB527_541.out _) NB527_541.out _) NB527_541.out _)⟩, ⟨(blk_far (blk_far (blk_far (blk_put (blk_put (blk_put BK540.out 0 _ rfl) 1 _ rfl) 2 _ rfl) NB540_541.out _) NB540_541.out _) NB540_541.out _)⟩, ⟨(blk_put (blk_put (blk_put (blk_far (blk_far (blk_far BK541.out NB541_540.out _) NB541_540.out _) NB541_540.out _) 0 _ rfl) 1 _ rfl) 2 _ rfl)⟩, ⟨ab8_⟩⟩
   case rest =>
    clear HC12
    obtain ⟨kq, x32_11, rfl, HA, HJ11, HO_541002, HO_542002, BK526, BK527, BK540, BK541, HB⟩ := hcut
    cases kq with
    | zero => exact absurd HA.out (by simp [impl_exprFold.j0])
    | succ kj11 =>
     have H := HA.out
     clear HA
     simp only [impl_exprFold.j0] at H
     by_cases c43 : x32_11 = true
     ·subst c43
      rw [if_pos rfl] at H
      obtain ⟨t542, A440, H⟩ := bsm H
      (try dsimp only at H)
      have A44 := am A440
      clear A440
      by_cases c45 : t542 ≥ 0
      ·rw [if_pos c45] at H
       have c45b0 : decide (0 ≤ t542) = true := decide_eq_true c45
       clear c45
       by_cases c46 : t542 ≤ 99999
       ·rw [if_pos c46] at H
        have c46b0 : decide (t542 ≤ 99999) = true := decide_eq_true c46
        clear c46
        simp only [Option.some.injEq, Prod.mk.injEq] at H
        obtain ⟨rfl, rfl, rfl⟩ := H
        have hnb47 := NB526_527.out
        have hnc47 := NB527_526.out
        have hnb48 := NB526_540.out
        have hnc48 := NB540_526.out
        have hnb49 := NB526_541.out
        have hnc49 := NB541_526.out
        obtain ⟨hcz50_0, hcz50_1, hcz50_2, hfz50_0, hfz50_1, hfz50_2⟩ := bcf3_ BK526.out
        have hnb51 := NB540_527.out
        have hnc51 := NB527_540.out
        have hnb52 := NB540_541.out
        have hnc52 := NB541_540.out
        obtain ⟨hcz53_0, hcz53_1, hcz53_2, hfz53_0, hfz53_1, hfz53_2⟩ := bcf3_ BK540.out
        have hnb54 := NB541_527.out
        have hnc54 := NB527_541.out
        obtain ⟨hcz55_0, hcz55_1, hcz55_2, hfz55_0, hfz55_1, hfz55_2⟩ := bcf3_ BK541.out
        go_wp2_with (first | ((with_reducible refine gate_callee (f := 94) rfl ?_); refine goesL_ (some 39) rfl rfl Try.func94 (by kernel_rfl) rfl #[.int .i64 a0_0, .int .i64 t530, .int .i64 t536] rfl ab1_ ?_; (with_reducible refine (impl_apply.calls a0_0 t530 t536 t542 _ A44.out).mono ?_); rintro e w' ⟨rfl, ⟨nd, rfl⟩⟩; refine ⟨_, rfl, ?_⟩; (try (rw [drewN_self wc]; generalize hq_ : World.drewN wc _ = wc; replace HO_541002 : Aside0 (Kd.N k32 32 wc w.heap.size (fun k_ => (w.heap.size ≤ k_) ∧ some k_ ≠ (.slice Ao29 t537.length co29 : Value).ownBlock ∧ k_ ≠ gb526 ∧ k_ ≠ gb527 ∧ k_ ≠ gb540 ∧ k_ ≠ gb541) (.slice Ao25 t531.length co25) t531) := ⟨by rw [← hq_]; exact (aN_ HO_541002.out)⟩; replace HO_542002 : Aside0 (Kd.N k32 32 wc w.heap.size (fun k_ => (w.heap.size ≤ k_) ∧ some k_ ≠ (.slice Ao25 t531.length co25 : Value).ownBlock ∧ k_ ≠ gb526 ∧ k_ ≠ gb527 ∧ k_ ≠ gb540 ∧ k_ ≠ gb541) (.slice Ao29 t537.length co29) t537) := ⟨by rw [← hq_]; exact (aN_ HO_542002.out)⟩; replace BK526 : Aside0 (wc.heap[gb526]? = some (.cells #[.int .i64 a0_0, .int .i64 a0_1, .slice (some ad528) l0_2.length c0_2] 32 (0, 0))) := ⟨by rw [← hq_]; exact (aG_ BK526.out)⟩; replace BK527 : Aside0 (wc.heap[gb527]? = some (.cells #[.int .i64 0, .int .i64 0, .slice none 0 0] 32 (0, 0))) := ⟨by rw [← hq_]; exact (aG_ BK527.out)⟩; replace BK540 : Aside0 (wc.heap[gb540]? = some (.cells #[.int .i64 t529, .int .i64 t530, .slice Ao25 t531.length co25] 32 (0, 0))) := ⟨by rw [← hq_]; exact (aG_ BK540.out)⟩; replace BK541 : Aside0 (wc.heap[gb541]? = some (.cells #[.int .i64 t535, .int .i64 t536, .slice Ao29 t537.length co29] 32 (0, 0))) := ⟨by rw [← hq_]; exact (aG_ BK541.out)⟩; replace HB : Aside0 (Below w.heap.size w wc) := ⟨by rw [← hq_]; exact ab8_⟩; clear hq_; obtain ⟨hczG1_0, hfzG1_0⟩ := bcf1_ BK526.out; have hczG1_1 : wc.cell? ⟨gb526, 1, none⟩ = some (.int .i64 a0_1) := (blk_cell BK526.out 1).trans rfl; have hfzG1_1 := blk_frozen BK526.out 1; have hczG1_2 : wc.cell? ⟨gb526, 2, none⟩ = some (.slice (some ad528) l0_2.length c0_2) := (blk_cell BK526.out 2).trans rfl; have hfzG1_2 := blk_frozen BK526.out 2; obtain ⟨hczG2_0, hfzG2_0⟩ := bcf1_ BK527.out; have hczG2_1 : wc.cell? ⟨gb527, 1, none⟩ = some (.int .i64 0) := (blk_cell BK527.out 1).trans rfl; have hfzG2_1 := blk_frozen BK527.out 1; have hczG2_2 : wc.cell? ⟨gb527, 2, none⟩ = some (.slice none 0 0) := (blk_cell BK527.out 2).trans rfl; have hfzG2_2 := blk_frozen BK527.out 2; obtain ⟨hczG3_0, hfzG3_0⟩ := bcf1_ BK540.out; have hczG3_1 : wc.cell? ⟨gb540, 1, none⟩ = some (.int .i64 t530) := (blk_cell BK540.out 1).trans rfl; have hfzG3_1 := blk_frozen BK540.out 1; have hczG3_2 : wc.cell? ⟨gb540, 2, none⟩ = some (.slice Ao25 t531.length co25) := (blk_cell BK540.out 2).trans rfl; have hfzG3_2 := blk_frozen BK540.out 2; obtain ⟨hczG4_0, hfzG4_0⟩ := bcf1_ BK541.out; have hczG4_1 : wc.cell? ⟨gb541, 1, none⟩ = some (.int .i64 t536) := (blk_cell BK541.out 1).trans rfl; have hfzG4_1 := blk_frozen BK541.out 1; have hczG4_2 : wc.cell? ⟨gb541, 2, none⟩ = some (.slice Ao29 t537.length co29) := (blk_cell BK541.out 2).trans rfl; have hfzG4_2 := blk_frozen BK541.out 2)); obtain ⟨hcz56_0, hcz56_1, hcz56_2, hfz56_0, hfz56_1, hfz56_2⟩ := bcf3_ BK527.out))
        refine bodyPost_ret (results_cell_row rfl _ _ gb527 32 #[.int .i64 0, .int .i64 t542, .slice none 0 0] (0, 0) _ rfl (blk_put (blk_put (blk_put BK527.out 0 _ rfl) 1 _ rfl) 2 _ rfl) Try.underlying32 rfl (by kernel_rfl)) rfl ?_
        exact ⟨_, ab11_, by first | exact Kd.R_nil _ _ _ _ _ | exact Kd.N_nil _ _ _ _ _ | exact Kd.V_nil _ _ _ _ _ | exact Kd.Q_nil _ _ _ _ _ | exact Kd.S_nil _ _ _ _ _, ab8_⟩
       rw [if_neg c46] at H
       have c46b0 : decide (t542 ≤ 99999) = false := decide_eq_false c46
       clear c46
       obtain ⟨y543, hy543⟩ : ∃ y_ : List (S32), y_ = (([(⟨t529, t530, t531⟩ : S32), (⟨t535, t536, t537⟩ : S32)] : List (S32))) := ⟨_, rfl⟩
       replace H : (some (a0_0, 0, y543)) = some (r1, r2, r3) := by first | (rw [hy543]; with_reducible exact H) | (have H2_ := (Option.bind_some _ _).symm.trans H; rw [hy543]; with_reducible exact H2_) | (have H2_ := (Option.bind_some _ _).symm.trans H; with_reducible exact H2_) | with_reducible exact H | (rw [hy543]; exact H) | exact H
       have Ny543 := am hy543
       clear hy543
       simp only [Option.some.injEq, Prod.mk.injEq] at H
       obtain ⟨rfl, rfl, rfl⟩ := H
       have hnb57 := NB526_527.out
       have hnc57 := NB527_526.out
       have hnb58 := NB526_540.out
       have hnc58 := NB540_526.out
       have hnb59 := NB526_541.out
       have hnc59 := NB541_526.out
       obtain ⟨hcz60_0, hcz60_1, hcz60_2, hfz60_0, hfz60_1, hfz60_2⟩ := bcf3_ BK526.out
       have hnb61 := NB540_527.out
       have hnc61 := NB527_540.out
       have hnb62 := NB540_541.out
       have hnc62 := NB541_540.out
       obtain ⟨hcz63_0, hcz63_1, hcz63_2, hfz63_0, hfz63_1, hfz63_2⟩ := bcf3_ BK540.out
       have hnb64 := NB541_527.out
       have hnc64 := NB527_541.out
       obtain ⟨hcz65_0, hcz65_1, hcz65_2, hfz65_0, hfz65_1, hfz65_2⟩ := bcf3_ BK541.out
       go_wp2_with (first | ((with_reducible refine gate_callee (f := 94) rfl ?_); refine goesL_ (some 39) rfl rfl Try.func94 (by kernel_rfl) rfl #[.int .i64 a0_0, .int .i64 t530, .int .i64 t536] rfl ab1_ ?_; (with_reducible refine (impl_apply.calls a0_0 t530 t536 t542 _ A44.out).mono ?_); rintro e w' ⟨rfl, ⟨nd, rfl⟩⟩; refine ⟨_, rfl, ?_⟩; (try (rw [drewN_self wc]; generalize hq_ : World.drewN wc _ = wc; replace HO_541002 : Aside0 (Kd.N k32 32 wc w.heap.size (fun k_ => (w.heap.size ≤ k_) ∧ some k_ ≠ (.slice Ao29 t537.length co29 : Value).ownBlock ∧ k_ ≠ gb526 ∧ k_ ≠ gb527 ∧ k_ ≠ gb540 ∧ k_ ≠ gb541) (.slice Ao25 t531.length co25) t531) := ⟨by rw [← hq_]; exact (aN_ HO_541002.out)⟩; replace HO_542002 : Aside0 (Kd.N k32 32 wc w.heap.size (fun k_ => (w.heap.size ≤ k_) ∧ some k_ ≠ (.slice Ao25 t531.length co25 : Value).ownBlock ∧ k_ ≠ gb526 ∧ k_ ≠ gb527 ∧ k_ ≠ gb540 ∧ k_ ≠ gb541) (.slice Ao29 t537.length co29) t537) := ⟨by rw [← hq_]; exact (aN_ HO_542002.out)⟩; replace BK526 : Aside0 (wc.heap[gb526]? = some (.cells #[.int .i64 a0_0, .int .i64 a0_1, .slice (some ad528) l0_2.length c0_2] 32 (0, 0))) := ⟨by rw [← hq_]; exact (aG_ BK526.out)⟩; replace BK527 : Aside0 (wc.heap[gb527]? = some (.cells #[.int .i64 0, .int .i64 0, .slice none 0 0] 32 (0, 0))) := ⟨by rw [← hq_]; exact (aG_ BK527.out)⟩; replace BK540 : Aside0 (wc.heap[gb540]? = some (.cells #[.int .i64 t529, .int .i64 t530, .slice Ao25 t531.length co25] 32 (0, 0))) := ⟨by rw [← hq_]; exact (aG_ BK540.out)⟩; replace BK541 : Aside0 (wc.heap[gb541]? = some (.cells #[.int .i64 t535, .int .i64 t536, .slice Ao29 t537.length co29] 32 (0, 0))) := ⟨by rw [← hq_]; exact (aG_ BK541.out)⟩; replace HB : Aside0 (Below w.heap.size w wc) := ⟨by rw [← hq_]; exact ab8_⟩; clear hq_; obtain ⟨hczG5_0, hfzG5_0⟩ := bcf1_ BK526.out; have hczG5_1 : wc.cell? ⟨gb526, 1, none⟩ = some (.int .i64 a0_1) := (blk_cell BK526.out 1).trans rfl; have hfzG5_1 := blk_frozen BK526.out 1; have hczG5_2 : wc.cell? ⟨gb526, 2, none⟩ = some (.slice (some ad528) l0_2.length c0_2) := (blk_cell BK526.out 2).trans rfl; have hfzG5_2 := blk_frozen BK526.out 2; obtain ⟨hczG6_0, hfzG6_0⟩ := bcf1_ BK527.out; have hczG6_1 : wc.cell? ⟨gb527, 1, none⟩ = some (.int .i64 0) := (blk_cell BK527.out 1).trans rfl; have hfzG6_1 := blk_frozen BK527.out 1; have hczG6_2 : wc.cell? ⟨gb527, 2, none⟩ = some (.slice none 0 0) := (blk_cell BK527.out 2).trans rfl; have hfzG6_2 := blk_frozen BK527.out 2; obtain ⟨hczG7_0, hfzG7_0⟩ := bcf1_ BK540.out; have hczG7_1 : wc.cell? ⟨gb540, 1, none⟩ = some (.int .i64 t530) := (blk_cell BK540.out 1).trans rfl; have hfzG7_1 := blk_frozen BK540.out 1; have hczG7_2 : wc.cell? ⟨gb540, 2, none⟩ = some (.slice Ao25 t531.length co25) := (blk_cell BK540.out 2).trans rfl; have hfzG7_2 := blk_frozen BK540.out 2; obtain ⟨hczG8_0, hfzG8_0⟩ := bcf1_ BK541.out; have hczG8_1 : wc.cell? ⟨gb541, 1, none⟩ = some (.int .i64 t536) := (blk_cell BK541.out 1).trans rfl; have hfzG8_1 := blk_frozen BK541.out 1; have hczG8_2 : wc.cell? ⟨gb541, 2, none⟩ = some (.slice Ao29 t537.length co29) := (blk_cell BK541.out 2).trans rfl; have hfzG8_2 := blk_frozen BK541.out 2))) | ((with_reducible refine gate_dst (N := 52) rfl ?_); refine Kd.N_lit k32 _ 32 rfl (N' := 52) rfl (xs := ([(⟨t529, t530, t531⟩ : S32), (⟨t535, t536, t537⟩ : S32)] : List (S32))) (inner := [.int .i64 t529, .int .i64 t530, .slice Ao25 t531.length co25, .int .i64 t535, .int .i64 t536, .slice Ao29 t537.length co29]) (ok := (fun k_ => (w.heap.size ≤ k_) ∧ k_ ≠ gb526 ∧ k_ ≠ gb527 ∧ k_ ≠ gb540 ∧ k_ ≠ gb541)) (okp := (fun k_ => (w.heap.size ≤ k_) ∧ k_ ≠ gb526 ∧ k_ ≠ gb527 ∧ k_ ≠ gb540 ∧ k_ ≠ gb541)) rn_ ?hp (fun _ hk => hk) ((show ∀ k_, wc.heap.size ≤ k_ → (fun k_ => (w.heap.size ≤ k_) ∧ k_ ≠ gb526 ∧ k_ ≠ gb527 ∧ k_ ≠ gb540 ∧ k_ ≠ gb541) k_ from fun k_ hk => ⟨(Nat.le_trans (below_size ab8_) hk), frb_ BK526.out k_ hk, frb_ BK527.out k_ hk, frb_ BK540.out k_ hk, frb_ BK541.out k_ hk⟩) _ (Nat.le_refl _)) (Below.refl _ _) (Nat.le_refl _) (by simp) ?_; (case hp => exact (Reps.c3 (show Kd.FK k32 _ _ (⟨t529, t530, t531⟩ : S32) [.int .i64 t529, .int .i64 t530, .slice Ao25 t531.length co25] from (k32_mkF _ _ (⟨t529, t530, t531⟩ : S32) (Kd.N_reads' (Kd.N_mono (ok' := (fun k_ => (w.heap.size ≤ k_) ∧ k_ ≠ gb526 ∧ k_ ≠ gb527 ∧ k_ ≠ gb540 ∧ k_ ≠ gb541)) (HO_541002.out) (fun k_ hk => ⟨hk.1, ⟨hk.2.2.1, ⟨hk.2.2.2.1, ⟨hk.2.2.2.2.1, hk.2.2.2.2.2⟩⟩⟩⟩))).2.1 (Kd.N_F (Kd.N_mono (ok' := (fun k_ => (w.heap.size ≤ k_) ∧ k_ ≠ gb526 ∧ k_ ≠ gb527 ∧ k_ ≠ gb540 ∧ k_ ≠ gb541)) (HO_541002.out) (fun k_ hk => ⟨hk.1, ⟨hk.2.2.1, ⟨hk.2.2.2.1, ⟨hk.2.2.2.2.1, hk.2.2.2.2.2⟩⟩⟩⟩))))) (Reps.c3 (show Kd.FK k32 _ _ (⟨t535, t536, t537⟩ : S32) [.int .i64 t535, .int .i64 t536, .slice Ao29 t537.length co29] from (k32_mkF _ _ (⟨t535, t536, t537⟩ : S32) (Kd.N_reads' (Kd.N_mono (ok' := (fun k_ => (w.heap.size ≤ k_) ∧ k_ ≠ gb526 ∧ k_ ≠ gb527 ∧ k_ ≠ gb540 ∧ k_ ≠ gb541)) (HO_542002.out) (fun k_ hk => ⟨hk.1, ⟨hk.2.2.1, ⟨hk.2.2.2.1, ⟨hk.2.2.2.2.1, hk.2.2.2.2.2⟩⟩⟩⟩))).2.1 (Kd.N_F (Kd.N_mono (ok' := (fun k_ => (w.heap.size ≤ k_) ∧ k_ ≠ gb526 ∧ k_ ≠ gb527 ∧ k_ ≠ gb540 ∧ k_ ≠ gb541)) (HO_542002.out) (fun k_ hk => ⟨hk.1, ⟨hk.2.2.1, ⟨hk.2.2.2.1, ⟨hk.2.2.2.2.1, hk.2.2.2.2.2⟩⟩⟩⟩))))) (Reps.none _ _)))); intro v544 w66 ho67 hb hg_ hnew_; clear hg_ hnew_; (first | rw [← Ny543.out] at ho67 | (simp only [Int.reduceToNat] at ho67; rw [← Ny543.out] at ho67)); have HO545 := am (Kd.N_lower ho67 (below_size ab8_)); replace BK526 := am (bbl_ BK526.out hb); replace BK527 := am (bbl_ BK527.out hb); replace BK540 := am (bbl_ BK540.out hb); replace BK541 := am (bbl_ BK541.out hb); replace HB := am (below_step ab8_ hb); clear HO_541002 HO_542002 hb ho67; obtain ⟨Ao68, co68, eo68⟩ := Kd.N_slice HO545.out; subst eo68; obtain ⟨hcz69_0, hcz69_1, hcz69_2, hfz69_0, hfz69_1, hfz69_2⟩ := bcf3_ BK527.out))
       refine bodyPost_ret (results_cell_row rfl _ _ gb527 32 #[.int .i64 a0_0, .int .i64 0, .slice Ao68 y543.length co68] (0, 0) _ rfl (blk_put (blk_put (blk_put BK527.out 0 _ rfl) 1 _ rfl) 2 _ rfl) Try.underlying32 rfl (by kernel_rfl)) rfl ?_
       exact ⟨_, ab11_, by (with_reducible repeat (first | apply Kd.N_alloc | apply Kd.N_drewN | apply Kd.N_drew)); exact Kd.N_mono (Kd.N_far (p := ⟨gb527, 2, none⟩) (Kd.N_far (p := ⟨gb527, 1, none⟩) (Kd.N_far (p := ⟨gb527, 0, none⟩) (Kd.N_mono HO545.out (fun k_ hk => (⟨hk, hk.2.2.1⟩ : _ ∧ k_ ≠ gb527))) (fun _ hk => hk.2) (.int .i64 a0_0)) (fun _ hk => hk.2) (.int .i64 0)) (fun _ hk => hk.2) (.slice Ao68 y543.length co68)) (fun _ hk => hk.1.1), ab8_⟩
      rw [if_neg c45] at H
      have c45b0 : decide (0 ≤ t542) = false := decide_eq_false c45
      clear c45
      obtain ⟨y546, hy546⟩ : ∃ y_ : List (S32), y_ = (([(⟨t529, t530, t531⟩ : S32), (⟨t535, t536, t537⟩ : S32)] : List (S32))) := ⟨_, rfl⟩
      replace H : (some (a0_0, 0, y546)) = some (r1, r2, r3) := by first | (rw [hy546]; with_reducible exact H) | (have H2_ := (Option.bind_some _ _).symm.trans H; rw [hy546]; with_reducible exact H2_) | (have H2_ := (Option.bind_some _ _).symm.trans H; with_reducible exact H2_) | with_reducible exact H | (rw [hy546]; exact H) | exact H
      have Ny546 := am hy546
      clear hy546
      simp only [Option.some.injEq, Prod.mk.injEq] at H
      obtain ⟨rfl, rfl, rfl⟩ := H
      have hnb70 := NB526_527.out
      have hnc70 := NB527_526.out
      have hnb71 := NB526_540.out
      have hnc71 := NB540_526.out
      have hnb72 := NB526_541.out
      have hnc72 := NB541_526.out
      obtain ⟨hcz73_0, hcz73_1, hcz73_2, hfz73_0, hfz73_1, hfz73_2⟩ := bcf3_ BK526.out
      have hnb74 := NB540_527.out
      have hnc74 := NB527_540.out
      have hnb75 := NB540_541.out
      have hnc75 := NB541_540.out
      obtain ⟨hcz76_0, hcz76_1, hcz76_2, hfz76_0, hfz76_1, hfz76_2⟩ := bcf3_ BK540.out
      have hnb77 := NB541_527.out
      have hnc77 := NB527_541.out
      obtain ⟨hcz78_0, hcz78_1, hcz78_2, hfz78_0, hfz78_1, hfz78_2⟩ := bcf3_ BK541.out
      go_wp2_with (first | ((with_reducible refine gate_callee (f := 94) rfl ?_); refine goesL_ (some 39) rfl rfl Try.func94 (by kernel_rfl) rfl #[.int .i64 a0_0, .int .i64 t530, .int .i64 t536] rfl ab1_ ?_; (with_reducible refine (impl_apply.calls a0_0 t530 t536 t542 _ A44.out).mono ?_); rintro e w' ⟨rfl, ⟨nd, rfl⟩⟩; refine ⟨_, rfl, ?_⟩; (try (rw [drewN_self wc]; generalize hq_ : World.drewN wc _ = wc; replace HO_541002 : Aside0 (Kd.N k32 32 wc w.heap.size (fun k_ => (w.heap.size ≤ k_) ∧ some k_ ≠ (.slice Ao29 t537.length co29 : Value).ownBlock ∧ k_ ≠ gb526 ∧ k_ ≠ gb527 ∧ k_ ≠ gb540 ∧ k_ ≠ gb541) (.slice Ao25 t531.length co25) t531) := ⟨by rw [← hq_]; exact (aN_ HO_541002.out)⟩; replace HO_542002 : Aside0 (Kd.N k32 32 wc w.heap.size (fun k_ => (w.heap.size ≤ k_) ∧ some k_ ≠ (.slice Ao25 t531.length co25 : Value).ownBlock ∧ k_ ≠ gb526 ∧ k_ ≠ gb527 ∧ k_ ≠ gb540 ∧ k_ ≠ gb541) (.slice Ao29 t537.length co29) t537) := ⟨by rw [← hq_]; exact (aN_ HO_542002.out)⟩; replace BK526 : Aside0 (wc.heap[gb526]? = some (.cells #[.int .i64 a0_0, .int .i64 a0_1, .slice (some ad528) l0_2.length c0_2] 32 (0, 0))) := ⟨by rw [← hq_]; exact (aG_ BK526.out)⟩; replace BK527 : Aside0 (wc.heap[gb527]? = some (.cells #[.int .i64 0, .int .i64 0, .slice none 0 0] 32 (0, 0))) := ⟨by rw [← hq_]; exact (aG_ BK527.out)⟩; replace BK540 : Aside0 (wc.heap[gb540]? = some (.cells #[.int .i64 t529, .int .i64 t530, .slice Ao25 t531.length co25] 32 (0, 0))) := ⟨by rw [← hq_]; exact (aG_ BK540.out)⟩; replace BK541 : Aside0 (wc.heap[gb541]? = some (.cells #[.int .i64 t535, .int .i64 t536, .slice Ao29 t537.length co29] 32 (0, 0))) := ⟨by rw [← hq_]; exact (aG_ BK541.out)⟩; replace HB : Aside0 (Below w.heap.size w wc) := ⟨by rw [← hq_]; exact ab8_⟩; clear hq_; obtain ⟨hczG9_0, hfzG9_0⟩ := bcf1_ BK526.out; have hczG9_1 : wc.cell? ⟨gb526, 1, none⟩ = some (.int .i64 a0_1) := (blk_cell BK526.out 1).trans rfl; have hfzG9_1 := blk_frozen BK526.out 1; have hczG9_2 : wc.cell? ⟨gb526, 2, none⟩ = some (.slice (some ad528) l0_2.length c0_2) := (blk_cell BK526.out 2).trans rfl; have hfzG9_2 := blk_frozen BK526.out 2; obtain ⟨hczG10_0, hfzG10_0⟩ := bcf1_ BK527.out; have hczG10_1 : wc.cell? ⟨gb527, 1, none⟩ = some (.int .i64 0) := (blk_cell BK527.out 1).trans rfl; have hfzG10_1 := blk_frozen BK527.out 1; have hczG10_2 : wc.cell? ⟨gb527, 2, none⟩ = some (.slice none 0 0) := (blk_cell BK527.out 2).trans rfl; have hfzG10_2 := blk_frozen BK527.out 2; obtain ⟨hczG11_0, hfzG11_0⟩ := bcf1_ BK540.out; have hczG11_1 : wc.cell? ⟨gb540, 1, none⟩ = some (.int .i64 t530) := (blk_cell BK540.out 1).trans rfl; have hfzG11_1 := blk_frozen BK540.out 1; have hczG11_2 : wc.cell? ⟨gb540, 2, none⟩ = some (.slice Ao25 t531.length co25) := (blk_cell BK540.out 2).trans rfl; have hfzG11_2 := blk_frozen BK540.out 2; obtain ⟨hczG12_0, hfzG12_0⟩ := bcf1_ BK541.out; have hczG12_1 : wc.cell? ⟨gb541, 1, none⟩ = some (.int .i64 t536) := (blk_cell BK541.out 1).trans rfl; have hfzG12_1 := blk_frozen BK541.out 1; have hczG12_2 : wc.cell? ⟨gb541, 2, none⟩ = some (.slice Ao29 t537.length co29) := (blk_cell BK541.out 2).trans rfl; have hfzG12_2 := blk_frozen BK541.out 2))) | ((with_reducible refine gate_dst (N := 52) rfl ?_); refine Kd.N_lit k32 _ 32 rfl (N' := 52) rfl (xs := ([(⟨t529, t530, t531⟩ : S32), (⟨t535, t536, t537⟩ : S32)] : List (S32))) (inner := [.int .i64 t529, .int .i64 t530, .slice Ao25 t531.length co25, .int .i64 t535, .int .i64 t536, .slice Ao29 t537.length co29]) (ok := (fun k_ => (w.heap.size ≤ k_) ∧ k_ ≠ gb526 ∧ k_ ≠ gb527 ∧ k_ ≠ gb540 ∧ k_ ≠ gb541)) (okp := (fun k_ => (w.heap.size ≤ k_) ∧ k_ ≠ gb526 ∧ k_ ≠ gb527 ∧ k_ ≠ gb540 ∧ k_ ≠ gb541)) rn_ ?hp (fun _ hk => hk) ((show ∀ k_, wc.heap.size ≤ k_ → (fun k_ => (w.heap.size ≤ k_) ∧ k_ ≠ gb526 ∧ k_ ≠ gb527 ∧ k_ ≠ gb540 ∧ k_ ≠ gb541) k_ from fun k_ hk => ⟨(Nat.le_trans (below_size ab8_) hk), frb_ BK526.out k_ hk, frb_ BK527.out k_ hk, frb_ BK540.out k_ hk, frb_ BK541.out k_ hk⟩) _ (Nat.le_refl _)) (Below.refl _ _) (Nat.le_refl _) (by simp) ?_; (case hp => exact (Reps.c3 (show Kd.FK k32 _ _ (⟨t529, t530, t531⟩ : S32) [.int .i64 t529, .int .i64 t530, .slice Ao25 t531.length co25] from (k32_mkF _ _ (⟨t529, t530, t531⟩ : S32) (Kd.N_reads' (Kd.N_mono (ok' := (fun k_ => (w.heap.size ≤ k_) ∧ k_ ≠ gb526 ∧ k_ ≠ gb527 ∧ k_ ≠ gb540 ∧ k_ ≠ gb541)) (HO_541002.out) (fun k_ hk => ⟨hk.1, ⟨hk.2.2.1, ⟨hk.2.2.2.1, ⟨hk.2.2.2.2.1, hk.2.2.2.2.2⟩⟩⟩⟩))).2.1 (Kd.N_F (Kd.N_mono (ok' := (fun k_ => (w.heap.size ≤ k_) ∧ k_ ≠ gb526 ∧ k_ ≠ gb527 ∧ k_ ≠ gb540 ∧ k_ ≠ gb541)) (HO_541002.out) (fun k_ hk => ⟨hk.1, ⟨hk.2.2.1, ⟨hk.2.2.2.1, ⟨hk.2.2.2.2.1, hk.2.2.2.2.2⟩⟩⟩⟩))))) (Reps.c3 (show Kd.FK k32 _ _ (⟨t535, t536, t537⟩ : S32) [.int .i64 t535, .int .i64 t536, .slice Ao29 t537.length co29] from (k32_mkF _ _ (⟨t535, t536, t537⟩ : S32) (Kd.N_reads' (Kd.N_mono (ok' := (fun k_ => (w.heap.size ≤ k_) ∧ k_ ≠ gb526 ∧ k_ ≠ gb527 ∧ k_ ≠ gb540 ∧ k_ ≠ gb541)) (HO_542002.out) (fun k_ hk => ⟨hk.1, ⟨hk.2.2.1, ⟨hk.2.2.2.1, ⟨hk.2.2.2.2.1, hk.2.2.2.2.2⟩⟩⟩⟩))).2.1 (Kd.N_F (Kd.N_mono (ok' := (fun k_ => (w.heap.size ≤ k_) ∧ k_ ≠ gb526 ∧ k_ ≠ gb527 ∧ k_ ≠ gb540 ∧ k_ ≠ gb541)) (HO_542002.out) (fun k_ hk => ⟨hk.1, ⟨hk.2.2.1, ⟨hk.2.2.2.1, ⟨hk.2.2.2.2.1, hk.2.2.2.2.2⟩⟩⟩⟩))))) (Reps.none _ _)))); intro v547 w79 ho80 hb hg_ hnew_; clear hg_ hnew_; (first | rw [← Ny546.out] at ho80 | (simp only [Int.reduceToNat] at ho80; rw [← Ny546.out] at ho80)); have HO548 := am (Kd.N_lower ho80 (below_size ab8_)); replace BK526 := am (bbl_ BK526.out hb); replace BK527 := am (bbl_ BK527.out hb); replace BK540 := am (bbl_ BK540.out hb); replace BK541 := am (bbl_ BK541.out hb); replace HB := am (below_step ab8_ hb); clear HO_541002 HO_542002 hb ho80; obtain ⟨Ao81, co81, eo81⟩ := Kd.N_slice HO548.out; subst eo81; obtain ⟨hcz82_0, hcz82_1, hcz82_2, hfz82_0, hfz82_1, hfz82_2⟩ := bcf3_ BK527.out))
      refine bodyPost_ret (results_cell_row rfl _ _ gb527 32 #[.int .i64 a0_0, .int .i64 0, .slice Ao81 y546.length co81] (0, 0) _ rfl (blk_put (blk_put (blk_put BK527.out 0 _ rfl) 1 _ rfl) 2 _ rfl) Try.underlying32 rfl (by kernel_rfl)) rfl ?_
      exact ⟨_, ab11_, by (with_reducible repeat (first | apply Kd.N_alloc | apply Kd.N_drewN | apply Kd.N_drew)); exact Kd.N_mono (Kd.N_far (p := ⟨gb527, 2, none⟩) (Kd.N_far (p := ⟨gb527, 1, none⟩) (Kd.N_far (p := ⟨gb527, 0, none⟩) (Kd.N_mono HO548.out (fun k_ hk => (⟨hk, hk.2.2.1⟩ : _ ∧ k_ ≠ gb527))) (fun _ hk => hk.2) (.int .i64 a0_0)) (fun _ hk => hk.2) (.int .i64 0)) (fun _ hk => hk.2) (.slice Ao81 y546.length co81)) (fun _ hk => hk.1.1), ab8_⟩
     replace c43 := Bool.eq_false_iff.mpr c43
     subst c43
     rw [if_neg (show ¬ (false = true) by decide)] at H
     obtain ⟨y549, hy549⟩ : ∃ y_ : List (S32), y_ = (([(⟨t529, t530, t531⟩ : S32), (⟨t535, t536, t537⟩ : S32)] : List (S32))) := ⟨_, rfl⟩
     replace H : (some (a0_0, 0, y549)) = some (r1, r2, r3) := by first | (rw [hy549]; with_reducible exact H) | (have H2_ := (Option.bind_some _ _).symm.trans H; rw [hy549]; with_reducible exact H2_) | (have H2_ := (Option.bind_some _ _).symm.trans H; with_reducible exact H2_) | with_reducible exact H | (rw [hy549]; exact H) | exact H
     have Ny549 := am hy549
     clear hy549
     simp only [Option.some.injEq, Prod.mk.injEq] at H
     obtain ⟨rfl, rfl, rfl⟩ := H
     have hnb83 := NB526_527.out
     have hnc83 := NB527_526.out
     have hnb84 := NB526_540.out
     have hnc84 := NB540_526.out
     have hnb85 := NB526_541.out
     have hnc85 := NB541_526.out
     obtain ⟨hcz86_0, hcz86_1, hcz86_2, hfz86_0, hfz86_1, hfz86_2⟩ := bcf3_ BK526.out
     have hnb87 := NB540_527.out
     have hnc87 := NB527_540.out
     have hnb88 := NB540_541.out
     have hnc88 := NB541_540.out
     obtain ⟨hcz89_0, hcz89_1, hcz89_2, hfz89_0, hfz89_1, hfz89_2⟩ := bcf3_ BK540.out
     have hnb90 := NB541_527.out
     have hnc90 := NB527_541.out
     obtain ⟨hcz91_0, hcz91_1, hcz91_2, hfz91_0, hfz91_1, hfz91_2⟩ := bcf3_ BK541.out
     go_wp2_with (first | ((with_reducible refine gate_dst (N := 52) rfl ?_); refine Kd.N_lit k32 _ 32 rfl (N' := 52) rfl (xs := ([(⟨t529, t530, t531⟩ : S32), (⟨t535, t536, t537⟩ : S32)] : List (S32))) (inner := [.int .i64 t529, .int .i64 t530, .slice Ao25 t531.length co25, .int .i64 t535, .int .i64 t536, .slice Ao29 t537.length co29]) (ok := (fun k_ => (w.heap.size ≤ k_) ∧ k_ ≠ gb526 ∧ k_ ≠ gb527 ∧ k_ ≠ gb540 ∧ k_ ≠ gb541)) (okp := (fun k_ => (w.heap.size ≤ k_) ∧ k_ ≠ gb526 ∧ k_ ≠ gb527 ∧ k_ ≠ gb540 ∧ k_ ≠ gb541)) rn_ ?hp (fun _ hk => hk) ((show ∀ k_, wc.heap.size ≤ k_ → (fun k_ => (w.heap.size ≤ k_) ∧ k_ ≠ gb526 ∧ k_ ≠ gb527 ∧ k_ ≠ gb540 ∧ k_ ≠ gb541) k_ from fun k_ hk => ⟨(Nat.le_trans (below_size ab8_) hk), frb_ BK526.out k_ hk, frb_ BK527.out k_ hk, frb_ BK540.out k_ hk, frb_ BK541.out k_ hk⟩) _ (Nat.le_refl _)) (Below.refl _ _) (Nat.le_refl _) (by simp) ?_; (case hp => exact (Reps.c3 (show Kd.FK k32 _ _ (⟨t529, t530, t531⟩ : S32) [.int .i64 t529, .int .i64 t530, .slice Ao25 t531.length co25] from (k32_mkF _ _ (⟨t529, t530, t531⟩ : S32) (Kd.N_reads' (Kd.N_mono (ok' := (fun k_ => (w.heap.size ≤ k_) ∧ k_ ≠ gb526 ∧ k_ ≠ gb527 ∧ k_ ≠ gb540 ∧ k_ ≠ gb541)) (HO_541002.out) (fun k_ hk => ⟨hk.1, ⟨hk.2.2.1, ⟨hk.2.2.2.1, ⟨hk.2.2.2.2.1, hk.2.2.2.2.2⟩⟩⟩⟩))).2.1 (Kd.N_F (Kd.N_mono (ok' := (fun k_ => (w.heap.size ≤ k_) ∧ k_ ≠ gb526 ∧ k_ ≠ gb527 ∧ k_ ≠ gb540 ∧ k_ ≠ gb541)) (HO_541002.out) (fun k_ hk => ⟨hk.1, ⟨hk.2.2.1, ⟨hk.2.2.2.1, ⟨hk.2.2.2.2.1, hk.2.2.2.2.2⟩⟩⟩⟩))))) (Reps.c3 (show Kd.FK k32 _ _ (⟨t535, t536, t537⟩ : S32) [.int .i64 t535, .int .i64 t536, .slice Ao29 t537.length co29] from (k32_mkF _ _ (⟨t535, t536, t537⟩ : S32) (Kd.N_reads' (Kd.N_mono (ok' := (fun k_ => (w.heap.size ≤ k_) ∧ k_ ≠ gb526 ∧ k_ ≠ gb527 ∧ k_ ≠ gb540 ∧ k_ ≠ gb541)) (HO_542002.out) (fun k_ hk => ⟨hk.1, ⟨hk.2.2.1, ⟨hk.2.2.2.1, ⟨hk.2.2.2.2.1, hk.2.2.2.2.2⟩⟩⟩⟩))).2.1 (Kd.N_F (Kd.N_mono (ok' := (fun k_ => (w.heap.size ≤ k_) ∧ k_ ≠ gb526 ∧ k_ ≠ gb527 ∧ k_ ≠ gb540 ∧ k_ ≠ gb541)) (HO_542002.out) (fun k_ hk => ⟨hk.1, ⟨hk.2.2.1, ⟨hk.2.2.2.1, ⟨hk.2.2.2.2.1, hk.2.2.2.2.2⟩⟩⟩⟩))))) (Reps.none _ _)))); intro v550 w92 ho93 hb hg_ hnew_; clear hg_ hnew_; (first | rw [← Ny549.out] at ho93 | (simp only [Int.reduceToNat] at ho93; rw [← Ny549.out] at ho93)); have HO551 := am (Kd.N_lower ho93 (below_size ab8_)); replace BK526 := am (bbl_ BK526.out hb); replace BK527 := am (bbl_ BK527.out hb); replace BK540 := am (bbl_ BK540.out hb); replace BK541 := am (bbl_ BK541.out hb); replace HB := am (below_step ab8_ hb); clear HO_541002 HO_542002 hb ho93; obtain ⟨Ao94, co94, eo94⟩ := Kd.N_slice HO551.out; subst eo94; obtain ⟨hcz95_0, hcz95_1, hcz95_2, hfz95_0, hfz95_1, hfz95_2⟩ := bcf3_ BK527.out))
     refine bodyPost_ret (results_cell_row rfl _ _ gb527 32 #[.int .i64 a0_0, .int .i64 0, .slice Ao94 y549.length co94] (0, 0) _ rfl (blk_put (blk_put (blk_put BK527.out 0 _ rfl) 1 _ rfl) 2 _ rfl) Try.underlying32 rfl (by kernel_rfl)) rfl ?_
     exact ⟨_, ab11_, by (with_reducible repeat (first | apply Kd.N_alloc | apply Kd.N_drewN | apply Kd.N_drew)); exact Kd.N_mono (Kd.N_far (p := ⟨gb527, 2, none⟩) (Kd.N_far (p := ⟨gb527, 1, none⟩) (Kd.N_far (p := ⟨gb527, 0, none⟩) (Kd.N_mono HO551.out (fun k_ hk => (⟨hk, hk.2.2.1⟩ : _ ∧ k_ ≠ gb527))) (fun _ hk => hk.2) (.int .i64 a0_0)) (fun _ hk => hk.2) (.int .i64 0)) (fun _ hk => hk.2) (.slice Ao94 y549.length co94)) (fun _ hk => hk.1.1), ab8_⟩
  rw [if_neg c10] at H
  exact absurd H (by simp)
 rw [if_neg c8] at H
 exact absurd H (by simp)
theorem impl_stmtsFold.mono_l : ∀ k, (∀ y0, LeO (impl_stmtsFold.f k y0) (impl_stmtsFold.f (k + 1) y0)) ∧ (∀ y0 y1 y2 y3, LeO (impl_stmtsFold.l0 k y0 y1 y2 y3) (impl_stmtsFold.l0 (k + 1) y0 y1 y2 y3)) ∧ (∀ y0 y1 y2 y3 y4 y5 y6 y7 y8 y9 y10 y11 y12 y13, LeO (impl_stmtsFold.j1 k y0 y1 y2 y3 y4 y5 y6 y7 y8 y9 y10 y11 y12 y13) (impl_stmtsFold.j1 (k + 1) y0 y1 y2 y3 y4 y5 y6 y7 y8 y9 y10 y11 y12 y13)) ∧ (∀ y0 y1 y2 y3 y4 y5 y6 y7 y8 y9 y10 y11 y12 y13, LeO (impl_stmtsFold.j2 k y0 y1 y2 y3 y4 y5 y6 y7 y8 y9 y10 y11 y12 y13) (impl_stmtsFold.j2 (k + 1) y0 y1 y2 y3 y4 y5 y6 y7 y8 y9 y10 y11 y12 y13))
 | 0 => ⟨fun _ r h => by simp [impl_stmtsFold.f] at h, fun _ _ _ _ r h => by simp [impl_stmtsFold.l0] at h, fun _ _ _ _ _ _ _ _ _ _ _ _ _ _ r h => by simp [impl_stmtsFold.j1] at h, fun _ _ _ _ _ _ _ _ _ _ _ _ _ _ r h => by simp [impl_stmtsFold.j2] at h⟩
 | k + 1 => by
  obtain ⟨ih0, ih1, ih2, ih3⟩ := impl_stmtsFold.mono_l k
  refine ⟨?_, ?_, ?_, ?_⟩
  ·intro y0
   unfold impl_stmtsFold.f
   repeat' first
   | (with_reducible exact ih0 _)
   | (with_reducible exact ih1 _ _ _ _)
   | (with_reducible exact ih2 _ _ _ _ _ _ _ _ _ _ _ _ _ _)
   | (with_reducible exact ih3 _ _ _ _ _ _ _ _ _ _ _ _ _ _)
   | (with_reducible exact impl_exprFold.mono _ _ _ _)
   | (with_reducible exact LeO.refl _)
   | (with_reducible exact LeO.none _)
   | (with_reducible refine LeO.ite ?_ ?_)
   | (with_reducible refine LeO.bind ?_ (fun _ => ?_))
  ·intro y0 y1 y2 y3
   unfold impl_stmtsFold.l0
   repeat' first
   | (with_reducible exact ih0 _)
   | (with_reducible exact ih1 _ _ _ _)
   | (with_reducible exact ih2 _ _ _ _ _ _ _ _ _ _ _ _ _ _)
   | (with_reducible exact ih3 _ _ _ _ _ _ _ _ _ _ _ _ _ _)
   | (with_reducible exact impl_exprFold.mono _ _ _ _)
   | (with_reducible exact LeO.refl _)
   | (with_reducible exact LeO.none _)
   | (with_reducible refine LeO.ite ?_ ?_)
   | (with_reducible refine LeO.bind ?_ (fun _ => ?_))
  ·intro y0 y1 y2 y3 y4 y5 y6 y7 y8 y9 y10 y11 y12 y13
   unfold impl_stmtsFold.j1
   repeat' first
   | (with_reducible exact ih0 _)
   | (with_reducible exact ih1 _ _ _ _)
   | (with_reducible exact ih2 _ _ _ _ _ _ _ _ _ _ _ _ _ _)
   | (with_reducible exact ih3 _ _ _ _ _ _ _ _ _ _ _ _ _ _)
   | (with_reducible exact impl_exprFold.mono _ _ _ _)
   | (with_reducible exact LeO.refl _)
   | (with_reducible exact LeO.none _)
   | (with_reducible refine LeO.ite ?_ ?_)
   | (with_reducible refine LeO.bind ?_ (fun _ => ?_))
  ·intro y0 y1 y2 y3 y4 y5 y6 y7 y8 y9 y10 y11 y12 y13
   unfold impl_stmtsFold.j2
   repeat' first
   | (with_reducible exact ih0 _)
   | (with_reducible exact ih1 _ _ _ _)
   | (with_reducible exact ih2 _ _ _ _ _ _ _ _ _ _ _ _ _ _)
   | (with_reducible exact ih3 _ _ _ _ _ _ _ _ _ _ _ _ _ _)
   | (with_reducible exact impl_exprFold.mono _ _ _ _)
   | (with_reducible exact LeO.refl _)
   | (with_reducible exact LeO.none _)
   | (with_reducible refine LeO.ite ?_ ?_)
   | (with_reducible refine LeO.bind ?_ (fun _ => ?_))
theorem impl_stmtsFold.mono : ∀ a0 k, LeO (impl_stmtsFold.f k a0) (impl_stmtsFold.f (k + 1) a0) := by
 intro a0 k
 obtain ⟨ih0, ih1, ih2, ih3⟩ := impl_stmtsFold.mono_l k
 exact ih0 a0
def impl_stmtsFold.T5 : Bool × List (List Nat × List Nat) := (true, [([], []), ([0], [0]), ([1], [1]), ([], []), ([3], [3]), ([4, 2], [4]), ([], []), ([6], [6]), ([7, 5], [7]), ([0, 1, 2, 3, 4, 6, 7], []), ([9, 2, 8, 0, 1, 2, 3, 4, 6, 7], [2, 9]), ([0, 1, 2, 3, 4, 5, 6, 7, 9, 10], []), ([11, 5, 10, 0, 1, 2, 3, 4, 5, 6, 7, 9, 10], [5, 11]), ([0, 1, 2, 3, 4, 5, 6, 7, 8, 9, 10, 11, 12], []), ([13, 8, 12, 0, 1, 2, 3, 4, 5, 6, 7, 8, 9, 10, 11, 12], [8, 13])])
def impl_stmtsFold.B5 : List Nat := [0, 1, 3, 0, 8, 31, 0, 64, 255, 223, 1023, 2047, 4095, 8191, 16383]
theorem impl_stmtsFold.tab5 : rtab .any (opsOf Try.f46 5) = impl_stmtsFold.T5 := by kernel_rfl
theorem impl_stmtsFold.bits5 : waitsOk impl_stmtsFold.T5.2 impl_stmtsFold.B5 = true := by kernel_rfl
theorem impl_stmtsFold.calls (k : Nat) : ∀ (A0 : Option Addr) (c0 : Nat) (l0 : List (S35)) (r : List (S35)) (w : World) (hr0 : Kd.C k35 w A0 l0.length l0) (hc0 : l0.length ≤ c0) (h : impl_stmtsFold.f k l0 = some r),
  Calls Try.prog 46 #[.slice A0 l0.length c0] w fun e w' => ∃ v0_ : Value, e = .returned (v0_) ∧ Kd.N k35 35 w' w.heap.size (fun k_ => (w.heap.size ≤ k_)) v0_ r ∧ Below w.heap.size w w' := by
 induction k using Nat.strongRecOn with
 | _ k ih =>
 intro A0 c0 l0 r w hr0 hc0 h
 cases k with
 | zero => exact absurd h (by simp [impl_stmtsFold.f])
 | succ k =>
 simp only [impl_stmtsFold.f] at h
 have hu35 := Try.underlying35
 have hu32 := Try.underlying32
 have HR0 := am hr0
 have HC0 := am hc0
 clear hr0 hc0
 have HB := am (Below.refl w.heap.size w)
 have H : (impl_stmtsFold.l0 k ([] : List (S35)) l0 (l0.length : Int) 0) = some r := h
 clear h
 have H' := am H
 clear H
 go_enter Try.func46, Try.ntmps46
 go_wp2
 go_loopg [3, 9] k (fun kq v3 v9 w' => ∃ (x3_1 : List (S35)) (x9_1 : Int), v9 = .int .i64 x9_1 ∧ Aside0 (impl_stmtsFold.l0 kq x3_1 l0 (l0.length : Int) x9_1 = some r) ∧ Aside0 (kq ≤ k) ∧ Aside0 (Kd.N k35 35 w' w.heap.size (fun k_ => (w.heap.size ≤ k_)) v3 x3_1) ∧ Aside0 (Below w.heap.size w w'))
 case atStart => exact ⟨(([] : List (S35))), (0), sd_, H', ⟨Nat.le_refl _⟩, ⟨by first | exact Kd.R_nil _ _ _ _ _ | exact Kd.N_nil _ _ _ _ _ | exact Kd.V_nil _ _ _ _ _ | exact Kd.Q_nil _ _ _ _ _ | exact Kd.S_nil _ _ _ _ _⟩, ⟨ab2_⟩⟩
 case round =>
  clear H'
  obtain ⟨x3_1, x9_1, rfl, HA, HK1, HO_3, HB⟩ := hrel
  cases gk with
  | zero => exact absurd HA.out (by simp [impl_stmtsFold.l0])
  | succ k1 =>
   have H := HA.out
   clear HA
   simp only [impl_stmtsFold.l0] at H
   by_cases c2 : x9_1 < (l0.length : Int)
   ·rw [if_pos c2] at H
    have c2b0 : decide (x9_1 < (l0.length : Int)) = true := decide_eq_true c2
    clear c2
    by_cases c3 : 0 ≤ x9_1
    ·rw [if_pos c3] at H
     have c3b0 : decide (0 ≤ x9_1) = true := decide_eq_true c3
     clear c3
     by_cases c4 : x9_1 < (l0.length : Int)
     ·rw [if_pos c4] at H
      have c4b0 : decide (x9_1 < (l0.length : Int)) = true := decide_eq_true c4
      clear c4
      obtain ⟨t554, A50, H⟩ := bsm H
      (try dsimp only at H)
      have A5 := am A50
      clear A50
      obtain ⟨t557, A60, H⟩ := bsm H
      (try dsimp only at H)
      have A6 := am A60
      clear A60
      obtain ⟨⟨t560, t561, t562⟩, A70, H⟩ := bsm H
      (try dsimp only at H)
      have A7 := am A70
      clear A70
      have HC8 := am H
      clear H
      have p552 : 0 ≤ (x9_1 : Int) := of_decide_eq_true asm_
      have q552 : x9_1 < (l0.length : Int) := of_decide_eq_true asm_
      obtain ⟨ad552, A552_5, c552_5, A552_6, c552_6, A552_7, c552_7, e552, hx552_0, hx552_1, hx552_2, hx552_3, hx552_4, hx552_5, hx552_6, hx552_7, hl552_5, hi552_5, hl552_6, hi552_6, hl552_7, hi552_7⟩ := at_T35 HR0.out x9_1 p552 q552
      cases e552
      replace hx552_0 := (HB.out.cell (World.block_lt_of_cell? w _ hx552_0)).trans hx552_0
      replace hx552_1 := (HB.out.cell (World.block_lt_of_cell? w _ hx552_1)).trans hx552_1
      replace hx552_2 := (HB.out.cell (World.block_lt_of_cell? w _ hx552_2)).trans hx552_2
      replace hx552_3 := (HB.out.cell (World.block_lt_of_cell? w _ hx552_3)).trans hx552_3
      replace hx552_4 := (HB.out.cell (World.block_lt_of_cell? w _ hx552_4)).trans hx552_4
      replace hx552_5 := (HB.out.cell (World.block_lt_of_cell? w _ hx552_5)).trans hx552_5
      replace hx552_6 := (HB.out.cell (World.block_lt_of_cell? w _ hx552_6)).trans hx552_6
      replace hx552_7 := (HB.out.cell (World.block_lt_of_cell? w _ hx552_7)).trans hx552_7
      have HR552_5 := am hi552_5
      have HC552_5 := am hl552_5
      clear hi552_5 hl552_5
      have HR552_6 := am hi552_6
      have HC552_6 := am hl552_6
      clear hi552_6 hl552_6
      have HR552_7 := am hi552_7
      have HC552_7 := am hl552_7
      clear hi552_7 hl552_7
      replace p552 := eq_true p552
      replace q552 := eq_true q552
      try go_wp2_with (first | ((with_reducible refine gate_dst (N := 5) rfl ?_); refine box_event rfl (N := 5) rfl (cs := #[.int .i64 0, .int .i64 0, .int .i64 0, .int .i64 0, .int .i64 0, .slice none 0 0, .slice none 0 0, .slice none 0 0]) (t := 35) rn_ ?_; intro gb553 hg w9 hbox hb; replace HO_3 := am (Kd.N_below (Kd.N_elderB (aN_ HO_3.out) gb553 (Nat.le_of_eq hg.symm)) hb); have BK553 := am (hbox); have GW553 := am ((by rw [hg]; exact (below_size ab2_) : w.heap.size ≤ gb553)); have GE553 := am ((by rw [hg]; exact (below_size ab2_) : w.heap.size ≤ gb553)); replace HB := am (below_step ab2_ hb); clear hb hbox hg; obtain ⟨hcz10_0, hcz10_1, hcz10_2, hcz10_3, hcz10_4, hcz10_5, hcz10_6, hcz10_7, hfz10_0, hfz10_1, hfz10_2, hfz10_3, hfz10_4, hfz10_5, hfz10_6, hfz10_7⟩ := bcf8_ BK553.out))
      have n0_ : Aside0 (Kd.N k35 35 ((((((((w9.setCell ⟨gb553, 0, none⟩ (.int .i64 ((rd_T35 l0 x9_1).f0))).setCell ⟨gb553, 1, none⟩ (.int .i64 ((rd_T35 l0 x9_1).f1))).setCell ⟨gb553, 2, none⟩ (.int .i64 ((rd_T35 l0 x9_1).f2))).setCell ⟨gb553, 3, none⟩ (.int .i64 ((rd_T35 l0 x9_1).f3.f0))).setCell ⟨gb553, 4, none⟩ (.int .i64 ((rd_T35 l0 x9_1).f3.f1))).setCell ⟨gb553, 5, none⟩ (.slice A552_5 ((rd_T35 l0 x9_1).f3.f2).length c552_5)).setCell ⟨gb553, 6, none⟩ (.slice A552_6 ((rd_T35 l0 x9_1).f4).length c552_6)).setCell ⟨gb553, 7, none⟩ (.slice A552_7 ((rd_T35 l0 x9_1).f5).length c552_7)) w.heap.size (fun k_ => (w.heap.size ≤ k_) ∧ k_ ≠ gb553) u3 x3_1) := ⟨by (with_reducible repeat (first | apply Kd.N_alloc | apply Kd.N_drewN | apply Kd.N_drew)); exact Kd.N_mono (Kd.N_far (p := ⟨gb553, 7, none⟩) (Kd.N_far (p := ⟨gb553, 6, none⟩) (Kd.N_far (p := ⟨gb553, 5, none⟩) (Kd.N_far (p := ⟨gb553, 4, none⟩) (Kd.N_far (p := ⟨gb553, 3, none⟩) (Kd.N_far (p := ⟨gb553, 2, none⟩) (Kd.N_far (p := ⟨gb553, 1, none⟩) (Kd.N_far (p := ⟨gb553, 0, none⟩) (Kd.N_mono HO_3.out (fun k_ hk => (⟨hk, hk.2⟩ : _ ∧ k_ ≠ gb553))) (fun _ hk => hk.2) (.int .i64 ((rd_T35 l0 x9_1).f0))) (fun _ hk => hk.2) (.int .i64 ((rd_T35 l0 x9_1).f1))) (fun _ hk => hk.2) (.int .i64 ((rd_T35 l0 x9_1).f2))) (fun _ hk => hk.2) (.int .i64 ((rd_T35 l0 x9_1).f3.f0))) (fun _ hk => hk.2) (.int .i64 ((rd_T35 l0 x9_1).f3.f1))) (fun _ hk => hk.2) (.slice A552_5 ((rd_T35 l0 x9_1).f3.f2).length c552_5)) (fun _ hk => hk.2) (.slice A552_6 ((rd_T35 l0 x9_1).f4).length c552_6)) (fun _ hk => hk.2) (.slice A552_7 ((rd_T35 l0 x9_1).f5).length c552_7)) (fun _ hk => ⟨hk.1.1, hk.1.2⟩)⟩
      have n1_ : Aside0 (((((((((w9.setCell ⟨gb553, 0, none⟩ (.int .i64 ((rd_T35 l0 x9_1).f0))).setCell ⟨gb553, 1, none⟩ (.int .i64 ((rd_T35 l0 x9_1).f1))).setCell ⟨gb553, 2, none⟩ (.int .i64 ((rd_T35 l0 x9_1).f2))).setCell ⟨gb553, 3, none⟩ (.int .i64 ((rd_T35 l0 x9_1).f3.f0))).setCell ⟨gb553, 4, none⟩ (.int .i64 ((rd_T35 l0 x9_1).f3.f1))).setCell ⟨gb553, 5, none⟩ (.slice A552_5 ((rd_T35 l0 x9_1).f3.f2).length c552_5)).setCell ⟨gb553, 6, none⟩ (.slice A552_6 ((rd_T35 l0 x9_1).f4).length c552_6)).setCell ⟨gb553, 7, none⟩ (.slice A552_7 ((rd_T35 l0 x9_1).f5).length c552_7)).heap[gb553]? = some (.cells #[.int .i64 ((rd_T35 l0 x9_1).f0), .int .i64 ((rd_T35 l0 x9_1).f1), .int .i64 ((rd_T35 l0 x9_1).f2), .int .i64 ((rd_T35 l0 x9_1).f3.f0), .int .i64 ((rd_T35 l0 x9_1).f3.f1), .slice A552_5 ((rd_T35 l0 x9_1).f3.f2).length c552_5, .slice A552_6 ((rd_T35 l0 x9_1).f4).length c552_6, .slice A552_7 ((rd_T35 l0 x9_1).f5).length c552_7] 35 (0, 0))) := ⟨(blk_put (blk_put (blk_put (blk_put (blk_put (blk_put (blk_put (blk_put BK553.out 0 _ rfl) 1 _ rfl) 2 _ rfl) 3 _ rfl) 4 _ rfl) 5 _ rfl) 6 _ rfl) 7 _ rfl)⟩
      have n2_ : Aside0 (Below w.heap.size w ((((((((w9.setCell ⟨gb553, 0, none⟩ (.int .i64 ((rd_T35 l0 x9_1).f0))).setCell ⟨gb553, 1, none⟩ (.int .i64 ((rd_T35 l0 x9_1).f1))).setCell ⟨gb553, 2, none⟩ (.int .i64 ((rd_T35 l0 x9_1).f2))).setCell ⟨gb553, 3, none⟩ (.int .i64 ((rd_T35 l0 x9_1).f3.f0))).setCell ⟨gb553, 4, none⟩ (.int .i64 ((rd_T35 l0 x9_1).f3.f1))).setCell ⟨gb553, 5, none⟩ (.slice A552_5 ((rd_T35 l0 x9_1).f3.f2).length c552_5)).setCell ⟨gb553, 6, none⟩ (.slice A552_6 ((rd_T35 l0 x9_1).f4).length c552_6)).setCell ⟨gb553, 7, none⟩ (.slice A552_7 ((rd_T35 l0 x9_1).f5).length c552_7))) := ⟨ab10_⟩
      (try clear HO_3)
      (try clear BK553)
      (try clear HB)
      generalize ((((((((w9.setCell ⟨gb553, 0, none⟩ (.int .i64 ((rd_T35 l0 x9_1).f0))).setCell ⟨gb553, 1, none⟩ (.int .i64 ((rd_T35 l0 x9_1).f1))).setCell ⟨gb553, 2, none⟩ (.int .i64 ((rd_T35 l0 x9_1).f2))).setCell ⟨gb553, 3, none⟩ (.int .i64 ((rd_T35 l0 x9_1).f3.f0))).setCell ⟨gb553, 4, none⟩ (.int .i64 ((rd_T35 l0 x9_1).f3.f1))).setCell ⟨gb553, 5, none⟩ (.slice A552_5 ((rd_T35 l0 x9_1).f3.f2).length c552_5)).setCell ⟨gb553, 6, none⟩ (.slice A552_6 ((rd_T35 l0 x9_1).f4).length c552_6)).setCell ⟨gb553, 7, none⟩ (.slice A552_7 ((rd_T35 l0 x9_1).f5).length c552_7)) = w11 at n0_ n1_ n2_ ⊢
      have HO_3 := n0_
      have BK553 := n1_
      have HB := n2_
      clear n0_ n1_ n2_
      replace HO_3 := am (Kd.N_drew HO_3.out)
      replace BK553 := am (blk_drew BK553.out)
      replace HB := am (below_drew1 HB.out)
      refine start_ (n := 15) (S := fun w' => w'.cell? ⟨gb553, 0, none⟩ = some (.int .i64 ((rd_T35 l0 x9_1).f0)) ∧ w'.cell? ⟨gb553, 1, none⟩ = some (.int .i64 ((rd_T35 l0 x9_1).f1)) ∧ w'.cell? ⟨gb553, 2, none⟩ = some (.int .i64 ((rd_T35 l0 x9_1).f2)) ∧ w'.cell? ⟨gb553, 3, none⟩ = some (.int .i64 ((rd_T35 l0 x9_1).f3.f0)) ∧ w'.cell? ⟨gb553, 4, none⟩ = some (.int .i64 ((rd_T35 l0 x9_1).f3.f1)) ∧ w'.cell? ⟨gb553, 5, none⟩ = some (.slice A552_5 ((rd_T35 l0 x9_1).f3.f2).length c552_5) ∧ w'.cell? ⟨gb553, 6, none⟩ = some (.slice A552_6 ((rd_T35 l0 x9_1).f4).length c552_6) ∧ w'.cell? ⟨gb553, 7, none⟩ = some (.slice A552_7 ((rd_T35 l0 x9_1).f5).length c552_7)) (ds := [10, 12, 14]) #[false, false, false, false, false, false, false, false, false, false, false, false, false, false, false] (by kernel_rfl) rfl rfl ⟨(blk_cell BK553.out 0).trans rfl, (blk_cell BK553.out 1).trans rfl, (blk_cell BK553.out 2).trans rfl, (blk_cell BK553.out 3).trans rfl, (blk_cell BK553.out 4).trans rfl, (blk_cell BK553.out 5).trans rfl, (blk_cell BK553.out 6).trans rfl, (blk_cell BK553.out 7).trans rfl⟩ (fun hHeld => ?_); refine with_tabW impl_stmtsFold.tab5 impl_stmtsFold.bits5 (fun HT_ HW_ => ?_)
      generalize w11.drew = w12 at HO_3 BK553 HB hHeld ⊢
      refine pure_ (i := 0) (N := some 13) (v := ?_) (a' := ?_) #[true, false, false, false, false, false, false, false, false, false, false, false, false, false, false] rfl rfl (any_of HT_.out (by kernel_rfl)) (fun _ _ _ h => h) (Or.inl ⟨by rfl, ?_⟩) ?_ ?_
      rotate_left
      ·intro w'
       go_simp
       with_reducible rfl
      rotate_left
      ·simp only [Act.put, List.setIfInBounds_toArray, List.set_cons_zero, List.set_cons_succ, i64_w, i32_w]
       rfl
      refine pure_ (i := 3) (N := some 16) (v := ?_) (a' := ?_) #[true, false, false, true, false, false, false, false, false, false, false, false, false, false, false] rfl rfl (any_of HT_.out (by kernel_rfl)) (fun _ _ _ h => h) (Or.inl ⟨by rfl, ?_⟩) ?_ ?_
      rotate_left
      ·intro w'
       go_simp
       with_reducible rfl
      rotate_left
      ·simp only [Act.put, List.setIfInBounds_toArray, List.set_cons_zero, List.set_cons_succ, i64_w, i32_w]
       rfl
      refine pure_ (i := 6) (N := some 19) (v := ?_) (a' := ?_) #[true, false, false, true, false, false, true, false, false, false, false, false, false, false, false] rfl rfl (any_of HT_.out (by kernel_rfl)) (fun _ _ _ h => h) (Or.inl ⟨by rfl, ?_⟩) ?_ ?_
      rotate_left
      ·intro w'
       go_simp
       with_reducible rfl
      rotate_left
      ·simp only [Act.put, List.setIfInBounds_toArray, List.set_cons_zero, List.set_cons_succ, i64_w, i32_w]
       rfl
      refine take_ (i := 1) (N := some 14) (v := ?_) (a' := ?_) #[true, true, false, true, false, false, true, false, false, false, false, false, false, false, false] rfl rfl (take_ofW HT_.out HW_.out (by kernel_rfl)) (fun _ _ _ h => h) (Or.inl ⟨by rfl, ?_⟩) hHeld ?_ ?_
      rotate_left
      ·rintro w' ⟨s0, s1, s2, s3, s4, s5, s6, s7⟩
       go_simp
       with_reducible rfl
      rotate_left
      ·simp only [Act.put, List.setIfInBounds_toArray, List.set_cons_zero, List.set_cons_succ, i64_w, i32_w]
       rfl
      refine take_ (i := 4) (N := some 17) (v := ?_) (a' := ?_) #[true, true, false, true, true, false, true, false, false, false, false, false, false, false, false] rfl rfl (take_ofW HT_.out HW_.out (by kernel_rfl)) (fun _ _ _ h => h) (Or.inl ⟨by rfl, ?_⟩) hHeld ?_ ?_
      rotate_left
      ·rintro w' ⟨s0, s1, s2, s3, s4, s5, s6, s7⟩
       go_simp
       with_reducible rfl
      rotate_left
      ·simp only [Act.put, List.setIfInBounds_toArray, List.set_cons_zero, List.set_cons_succ, i64_w, i32_w]
       rfl
      refine take_ (i := 7) (N := some 20) (v := ?_) (a' := ?_) #[true, true, false, true, true, false, true, true, false, false, false, false, false, false, false] rfl rfl (take_ofW HT_.out HW_.out (by kernel_rfl)) (fun _ _ _ h => h) (Or.inl ⟨by rfl, ?_⟩) hHeld ?_ ?_
      rotate_left
      ·rintro w' ⟨s0, s1, s2, s3, s4, s5, s6, s7⟩
       go_simp
       with_reducible rfl
      rotate_left
      ·simp only [Act.put, List.setIfInBounds_toArray, List.set_cons_zero, List.set_cons_succ, i64_w, i32_w]
       rfl
      refine one_ (i := 2) (N := some 15) #[true, true, true, true, true, false, true, true, false, false, false, false, false, false, false] rfl rfl (one_of HT_.out (by kernel_rfl)) (by decide) (fun K hK => ?_)
      refine goes_ Try.func46 (by kernel_rfl) rfl #[.slice A552_6 ((rd_T35 l0 x9_1).f4).length c552_6] (by rfl) rfl rfl ab1_ ?_
      with_reducible refine (ih k1 (by have := HK1.out; omega) _ _ ((rd_T35 l0 x9_1).f4) t554 _ (aC_ (Kd.C_below HR552_6.out HB.out)) HC552_6.out A5.out).mono ?_
      rintro e w13 ⟨v555, rfl, ho0, hb⟩
      refine ⟨_, rfl, ?_⟩
      have HO556 := am (Kd.N_lower (Kd.N_mono (ok' := fun k_ => (w.heap.size ≤ k_) ∧ some k_ ≠ (u3 : Value).ownBlock ∧ k_ ≠ gb553) ho0 (fun k_ hk_ => ⟨(Nat.le_trans (below_size ab10_) hk_), (Kd.fresh' (Kd.N_lt (aN_ HO_3.out)) k_ hk_), (frb_ BK553.out k_ hk_)⟩)) (below_size ab10_))
      replace HO_3 := am (Kd.N_elder' (aN_ HO_3.out) (by first | exact Kd.N_base ho0 | exact Kd.N_base (Kd.R_N ho0)) hb)
      replace BK553 := am (bbl_ BK553.out hb)
      replace HB := am (below_step ab10_ hb)
      (try clear hb)
      (try clear hb2)
      (try clear hk)
      (try clear hi)
      (try clear ho0)
      refine hK.out _ _ ⟨(blk_cell BK553.out 0).trans rfl, (blk_cell BK553.out 1).trans rfl, (blk_cell BK553.out 2).trans rfl, (blk_cell BK553.out 3).trans rfl, (blk_cell BK553.out 4).trans rfl, (blk_cell BK553.out 5).trans rfl, (blk_cell BK553.out 6).trans rfl, (blk_cell BK553.out 7).trans rfl⟩ (fun hHeld => ?_)
      clear hK K
      refine norm_ (a' := ?_) ?_ ?_
      rotate_left
      ·show Act.put _ (some 15) _ = _
       simp only [Act.put, List.setIfInBounds_toArray, List.set_cons_zero, List.set_cons_succ, i64_w, i32_w]
       rfl
      refine pure_ (i := 9) (N := some 22) (v := ?_) (a' := ?_) #[true, true, true, true, true, false, true, true, false, true, false, false, false, false, false] rfl rfl (any_of HT_.out (by kernel_rfl)) (fun _ _ _ h => h) (Or.inl ⟨by rfl, ?_⟩) ?_ ?_
      rotate_left
      ·intro w'
       go_simp
       with_reducible rfl
      rotate_left
      ·simp only [Act.put, List.setIfInBounds_toArray, List.set_cons_zero, List.set_cons_succ, i64_w, i32_w]
       rfl
      refine one_ (i := 5) (N := some 18) #[true, true, true, true, true, true, true, true, false, true, false, false, false, false, false] rfl rfl (one_of HT_.out (by kernel_rfl)) (by decide) (fun K hK => ?_)
      refine goes_ Try.func46 (by kernel_rfl) rfl #[.slice A552_7 ((rd_T35 l0 x9_1).f5).length c552_7] (by rfl) rfl rfl ab1_ ?_
      with_reducible refine (ih k1 (by have := HK1.out; omega) _ _ ((rd_T35 l0 x9_1).f5) t557 _ (aC_ (Kd.C_below HR552_7.out HB.out)) HC552_7.out A6.out).mono ?_
      rintro e w14 ⟨v558, rfl, ho0, hb⟩
      refine ⟨_, rfl, ?_⟩
      have HO559 := am (Kd.N_lower (Kd.N_mono (ok' := fun k_ => (w.heap.size ≤ k_) ∧ some k_ ≠ (u3 : Value).ownBlock ∧ some k_ ≠ (v555 : Value).ownBlock ∧ k_ ≠ gb553) ho0 (fun k_ hk_ => ⟨(Nat.le_trans (below_size ab10_) hk_), (Kd.fresh' (Kd.N_lt (aN_ HO_3.out)) k_ hk_), (Kd.fresh' (Kd.N_lt (aN_ HO556.out)) k_ hk_), (frb_ BK553.out k_ hk_)⟩)) (below_size ab10_))
      replace HO_3 := am (Kd.N_elder' (aN_ HO_3.out) (by first | exact Kd.N_base ho0 | exact Kd.N_base (Kd.R_N ho0)) hb)
      replace HO556 := am (Kd.N_elder' (aN_ HO556.out) (by first | exact Kd.N_base ho0 | exact Kd.N_base (Kd.R_N ho0)) hb)
      replace BK553 := am (bbl_ BK553.out hb)
      replace HB := am (below_step ab10_ hb)
      (try clear hb)
      (try clear hb2)
      (try clear hk)
      (try clear hi)
      (try clear ho0)
      refine hK.out _ _ ⟨(blk_cell BK553.out 0).trans rfl, (blk_cell BK553.out 1).trans rfl, (blk_cell BK553.out 2).trans rfl, (blk_cell BK553.out 3).trans rfl, (blk_cell BK553.out 4).trans rfl, (blk_cell BK553.out 5).trans rfl, (blk_cell BK553.out 6).trans rfl, (blk_cell BK553.out 7).trans rfl⟩ (fun hHeld => ?_)
      clear hK K
      refine norm_ (a' := ?_) ?_ ?_
      rotate_left
      ·show Act.put _ (some 18) _ = _
       simp only [Act.put, List.setIfInBounds_toArray, List.set_cons_zero, List.set_cons_succ, i64_w, i32_w]
       rfl
      refine one_ (i := 8) (N := some 21) #[true, true, true, true, true, true, true, true, true, true, false, false, false, false, false] rfl rfl (one_of HT_.out (by kernel_rfl)) (by decide) (fun K hK => ?_)
      refine goes_ Try.func78 (by kernel_rfl) rfl #[.agg #[.int .i64 ((rd_T35 l0 x9_1).f3.f0), .int .i64 ((rd_T35 l0 x9_1).f3.f1), .slice A552_5 ((rd_T35 l0 x9_1).f3.f2).length c552_5]] (by rfl) rfl rfl ab1_ ?_
      with_reducible refine (impl_exprFold.calls k1 ((rd_T35 l0 x9_1).f3.f0) ((rd_T35 l0 x9_1).f3.f1) _ _ ((rd_T35 l0 x9_1).f3.f2) t560 t561 t562 _ (aC_ (Kd.C_below HR552_5.out HB.out)) HC552_5.out A7.out).mono ?_
      rintro e w15 ⟨v563, rfl, ho0, hb⟩
      refine ⟨_, rfl, ?_⟩
      have HO564 := am (Kd.N_lower (Kd.N_mono (ok' := fun k_ => (w.heap.size ≤ k_) ∧ some k_ ≠ (u3 : Value).ownBlock ∧ some k_ ≠ (v555 : Value).ownBlock ∧ some k_ ≠ (v558 : Value).ownBlock ∧ k_ ≠ gb553) ho0 (fun k_ hk_ => ⟨(Nat.le_trans (below_size ab10_) hk_), (Kd.fresh' (Kd.N_lt (aN_ HO_3.out)) k_ hk_), (Kd.fresh' (Kd.N_lt (aN_ HO556.out)) k_ hk_), (Kd.fresh' (Kd.N_lt (aN_ HO559.out)) k_ hk_), (frb_ BK553.out k_ hk_)⟩)) (below_size ab10_))
      replace HO_3 := am (Kd.N_elder' (aN_ HO_3.out) (by first | exact Kd.N_base ho0 | exact Kd.N_base (Kd.R_N ho0)) hb)
      replace HO556 := am (Kd.N_elder' (aN_ HO556.out) (by first | exact Kd.N_base ho0 | exact Kd.N_base (Kd.R_N ho0)) hb)
      replace HO559 := am (Kd.N_elder' (aN_ HO559.out) (by first | exact Kd.N_base ho0 | exact Kd.N_base (Kd.R_N ho0)) hb)
      replace BK553 := am (bbl_ BK553.out hb)
      replace HB := am (below_step ab10_ hb)
      (try clear hb)
      (try clear hb2)
      (try clear hk)
      (try clear hi)
      (try clear ho0)
      obtain ⟨Ao16, co16, eo16⟩ := Kd.N_slice HO556.out
      (first | subst eo16 | (injection eo16 with f1_ f2_ f3_; have f4_ := f1_.symm; have f5_ := f3_.symm; clear f1_ f2_ f3_; subst f4_; subst f5_))
      obtain ⟨Ao18, co18, eo18⟩ := Kd.N_slice HO559.out
      (first | subst eo18 | (injection eo18 with f1_ f2_ f3_; have f4_ := f1_.symm; have f5_ := f3_.symm; clear f1_ f2_ f3_; subst f4_; subst f5_))
      obtain ⟨Ao22, co22, eo22⟩ := Kd.N_slice HO564.out
      (first | subst eo22 | (injection eo22 with f1_ f2_ f3_; have f4_ := f1_.symm; have f5_ := f3_.symm; clear f1_ f2_ f3_; subst f4_; subst f5_))
      refine hK.out _ _ ⟨(blk_cell BK553.out 0).trans rfl, (blk_cell BK553.out 1).trans rfl, (blk_cell BK553.out 2).trans rfl, (blk_cell BK553.out 3).trans rfl, (blk_cell BK553.out 4).trans rfl, (blk_cell BK553.out 5).trans rfl, (blk_cell BK553.out 6).trans rfl, (blk_cell BK553.out 7).trans rfl⟩ (fun hHeld => ?_)
      clear hK K
      refine norm_ (a' := ?_) ?_ ?_
      rotate_left
      ·show Act.put _ (some 21) _ = _
       simp only [Act.put, List.setIfInBounds_toArray, List.set_cons_zero, List.set_cons_succ, i64_w, i32_w]
       rfl
      refine last_ (i := 10) (N := none) #[true, true, true, true, true, true, true, true, true, true, true, false, false, false, false] rfl rfl (one_of HT_.out (by kernel_rfl)) (by decide) (fun K hK => ?_)
      have hs17 : w15.cell? ⟨gb553, 6, none⟩ = some (.slice A552_6 ((rd_T35 l0 x9_1).f4).length c552_6) := (blk_cell BK553.out 6).trans rfl
      have hfs17 := blk_frozen BK553.out 6
      refine skip_ (w1 := ?_) (by rfl) rfl ?_ ?_
      rotate_left
      ·go_simp
       rfl
      refine hK.out _ _ ?_
      clear hK K
      refine pure_ (i := 11) (N := some 23) (v := ?_) (a' := ?_) #[true, true, true, true, true, true, true, true, true, true, true, true, false, false, false] rfl rfl (any_of HT_.out (by kernel_rfl)) (fun _ _ _ h => h) (Or.inl ⟨by rfl, ?_⟩) ?_ ?_
      rotate_left
      ·intro w'
       go_simp
       with_reducible rfl
      rotate_left
      ·simp only [Act.put, List.setIfInBounds_toArray, List.set_cons_zero, List.set_cons_succ, i64_w, i32_w]
       rfl
      refine last_ (i := 12) (N := none) #[true, true, true, true, true, true, true, true, true, true, true, true, true, false, false] rfl rfl (one_of HT_.out (by kernel_rfl)) (by decide) (fun K hK => ?_)
      have hs19 : w15.cell? ⟨gb553, 7, none⟩ = some (.slice A552_7 ((rd_T35 l0 x9_1).f5).length c552_7) := (blk_cell BK553.out 7).trans rfl
      have hfs19 := blk_frozen BK553.out 7
      refine skip_ (w1 := ?_) (by rfl) rfl ?_ ?_
      rotate_left
      ·go_simp
       rfl
      refine hK.out _ _ ?_
      clear hK K
      refine pure_ (i := 13) (N := some 24) (v := ?_) (a' := ?_) #[true, true, true, true, true, true, true, true, true, true, true, true, true, true, false] rfl rfl (any_of HT_.out (by kernel_rfl)) (fun _ _ _ h => h) (Or.inl ⟨by rfl, ?_⟩) ?_ ?_
      rotate_left
      ·intro w'
       go_simp
       with_reducible rfl
      rotate_left
      ·simp only [Act.put, List.setIfInBounds_toArray, List.set_cons_zero, List.set_cons_succ, i64_w, i32_w]
       rfl
      refine last_ (i := 14) (N := none) #[true, true, true, true, true, true, true, true, true, true, true, true, true, true, true] rfl rfl (one_of HT_.out (by kernel_rfl)) (by decide) (fun K hK => ?_)
      have hs20 : w15.cell? ⟨gb553, 3, none⟩ = some (.int .i64 ((rd_T35 l0 x9_1).f3.f0)) := (blk_cell BK553.out 3).trans rfl
      have hfs20 := blk_frozen BK553.out 3
      have hs21 : w15.cell? ⟨gb553, 4, none⟩ = some (.int .i64 ((rd_T35 l0 x9_1).f3.f1)) := (blk_cell BK553.out 4).trans rfl
      have hfs21 := blk_frozen BK553.out 4
      have hs23 : w15.cell? ⟨gb553, 5, none⟩ = some (.slice A552_5 ((rd_T35 l0 x9_1).f3.f2).length c552_5) := (blk_cell BK553.out 5).trans rfl
      have hfs23 := blk_frozen BK553.out 5
      refine skip_ (w1 := ?_) (by rfl) rfl ?_ ?_
      rotate_left
      ·go_simp
       rfl
      refine hK.out _ _ ?_
      clear hK K
      refine done_ (done_of HT_.out (by kernel_rfl)) ?_
      obtain ⟨hcz24_0, hcz24_1, hcz24_2, hcz24_3, hcz24_4, hcz24_5, hcz24_6, hcz24_7, hfz24_0, hfz24_1, hfz24_2, hfz24_3, hfz24_4, hfz24_5, hfz24_6, hfz24_7⟩ := bcf8_ BK553.out
      go_upto_region 8 with (fail)
      go_cut [33] (fun v33 wc => ∃ (kq : Nat) (x33_7 : Bool), v33 = .bool x33_7 ∧ Aside0 (impl_stmtsFold.j1 kq x3_1 (t560 == 0) l0 (l0.length : Int) x9_1 x33_7 ((rd_T35 l0 x9_1).f0) ((rd_T35 l0 x9_1).f1) ((rd_T35 l0 x9_1).f2) t560 t561 t562 t554 t557 = some r) ∧ Aside0 (kq ≤ k1) ∧ Aside0 (Kd.N k35 35 wc w.heap.size (fun k_ => (w.heap.size ≤ k_) ∧ some k_ ≠ ((.slice Ao22 t562.length co22) : Value).ownBlock ∧ some k_ ≠ ((.slice Ao16 t554.length co16) : Value).ownBlock ∧ some k_ ≠ ((.slice Ao18 t557.length co18) : Value).ownBlock ∧ k_ ≠ gb553) u3 x3_1) ∧ Aside0 (Kd.N k32 32 wc w.heap.size (fun k_ => (w.heap.size ≤ k_) ∧ some k_ ≠ (u3 : Value).ownBlock ∧ some k_ ≠ ((.slice Ao16 t554.length co16) : Value).ownBlock ∧ some k_ ≠ ((.slice Ao18 t557.length co18) : Value).ownBlock ∧ k_ ≠ gb553) (.slice Ao22 t562.length co22) t562) ∧ Aside0 (Kd.N k35 35 wc w.heap.size (fun k_ => (w.heap.size ≤ k_) ∧ some k_ ≠ (u3 : Value).ownBlock ∧ some k_ ≠ ((.slice Ao22 t562.length co22) : Value).ownBlock ∧ some k_ ≠ ((.slice Ao18 t557.length co18) : Value).ownBlock ∧ k_ ≠ gb553) (.slice Ao16 t554.length co16) t554) ∧ Aside0 (Kd.N k35 35 wc w.heap.size (fun k_ => (w.heap.size ≤ k_) ∧ some k_ ≠ (u3 : Value).ownBlock ∧ some k_ ≠ ((.slice Ao22 t562.length co22) : Value).ownBlock ∧ some k_ ≠ ((.slice Ao16 t554.length co16) : Value).ownBlock ∧ k_ ≠ gb553) (.slice Ao18 t557.length co18) t557) ∧ Aside0 (wc.heap[gb553]? = some (.cells #[.int .i64 ((rd_T35 l0 x9_1).f0), .int .i64 ((rd_T35 l0 x9_1).f1), .int .i64 ((rd_T35 l0 x9_1).f2), .int .i64 t560, .int .i64 t561, (.slice Ao22 t562.length co22), (.slice Ao16 t554.length co16), (.slice Ao18 t557.length co18)] 35 (0, 0))) ∧ Aside0 (Below w.heap.size w wc))
      case first =>
       have H := HC8.out
       clear HC8
       by_cases c25 : ((rd_T35 l0 x9_1).f0) = 2
       ·rw [if_pos c25] at H
        have c25b0 : (((rd_T35 l0 x9_1).f0) == 2) = true := beq_iff_eq.mpr c25
        have c25b1 : (((rd_T35 l0 x9_1).f0) != 2) = false := bne_eq_false_iff_eq.mpr c25
        clear c25
        (first | rw [c25b0] | (simp only [i64_w, i32_w]; rw [c25b0]) | skip)
        by_cases c26 : t560 = 0
        ·rw [if_pos c26] at H
         have c26b0 : (t560 == 0) = true := beq_iff_eq.mpr c26
         have c26b1 : (t560 != 0) = false := bne_eq_false_iff_eq.mpr c26
         clear c26
         have H' := am H
         clear H
         obtain ⟨hcz27_0, hcz27_1, hcz27_2, hcz27_3, hcz27_4, hcz27_5, hcz27_6, hcz27_7, hfz27_0, hfz27_1, hfz27_2, hfz27_3, hfz27_4, hfz27_5, hfz27_6, hfz27_7⟩ := bcf8_ BK553.out
         go_wp2
         go_meet
         case rel => exact ⟨_, ((t561 != 0)), sd_, H', ⟨by have := HK1.out; first | omega | exact Nat.le_refl _⟩, ⟨by (with_reducible repeat (first | apply Kd.N_alloc | apply Kd.N_drewN | apply Kd.N_drew)); exact Kd.N_mono (Kd.N_far (p := ⟨gb553, 5, none⟩) (Kd.N_far (p := ⟨gb553, 4, none⟩) (Kd.N_far (p := ⟨gb553, 3, none⟩) (Kd.N_far (p := ⟨gb553, 7, none⟩) (Kd.N_far (p := ⟨gb553, 6, none⟩) (Kd.N_mono HO_3.out (fun k_ hk => (⟨hk, hk.1.1.1.2⟩ : _ ∧ k_ ≠ gb553))) (fun _ hk => hk.2) (.slice Ao16 t554.length co16)) (fun _ hk => hk.2) (.slice Ao18 t557.length co18)) (fun _ hk => hk.2) (.int .i64 t560)) (fun _ hk => hk.2) (.int .i64 t561)) (fun _ hk => hk.2) (.slice Ao22 t562.length co22)) (fun _ hk => ⟨hk.1.1.1.1.1, ⟨hk.1.2, ⟨hk.1.1.1.2, ⟨hk.1.1.2, hk.1.1.1.1.2⟩⟩⟩⟩)⟩, ⟨by (with_reducible repeat (first | apply Kd.N_alloc | apply Kd.N_drewN | apply Kd.N_drew)); exact Kd.N_mono (Kd.N_far (p := ⟨gb553, 5, none⟩) (Kd.N_far (p := ⟨gb553, 4, none⟩) (Kd.N_far (p := ⟨gb553, 3, none⟩) (Kd.N_far (p := ⟨gb553, 7, none⟩) (Kd.N_far (p := ⟨gb553, 6, none⟩) (Kd.N_mono HO564.out (fun k_ hk => (⟨hk, hk.2.2.2.2⟩ : _ ∧ k_ ≠ gb553))) (fun _ hk => hk.2) (.slice Ao16 t554.length co16)) (fun _ hk => hk.2) (.slice Ao18 t557.length co18)) (fun _ hk => hk.2) (.int .i64 t560)) (fun _ hk => hk.2) (.int .i64 t561)) (fun _ hk => hk.2) (.slice Ao22 t562.length co22)) (fun _ hk => ⟨hk.1.1, ⟨hk.1.2.1, ⟨hk.1.2.2.1, ⟨hk.1.2.2.2.1, hk.1.2.2.2.2⟩⟩⟩⟩)⟩, ⟨by (with_reducible repeat (first | apply Kd.N_alloc | apply Kd.N_drewN | apply Kd.N_drew)); exact Kd.N_mono (Kd.N_far (p := ⟨gb553, 5, none⟩) (Kd.N_far (p := ⟨gb553, 4, none⟩) (Kd.N_far (p := ⟨gb553, 3, none⟩) (Kd.N_far (p := ⟨gb553, 7, none⟩) (Kd.N_far (p := ⟨gb553, 6, none⟩) (Kd.N_mono HO556.out (fun k_ hk => (⟨hk, hk.1.1.2.2⟩ : _ ∧ k_ ≠ gb553))) (fun _ hk => hk.2) (.slice Ao16 t554.length co16)) (fun _ hk => hk.2) (.slice Ao18 t557.length co18)) (fun _ hk => hk.2) (.int .i64 t560)) (fun _ hk => hk.2) (.int .i64 t561)) (fun _ hk => hk.2) (.slice Ao22 t562.length co22)) (fun _ hk => ⟨hk.1.1.1.1, ⟨hk.1.1.1.2.1, ⟨hk.1.2, ⟨hk.1.1.2, hk.1.1.1.2.2⟩⟩⟩⟩)⟩, ⟨by (with_reducible repeat (first | apply Kd.N_alloc | apply Kd.N_drewN | apply Kd.N_drew)); exact Kd.N_mono (Kd.N_far (p := ⟨gb553, 5, none⟩) (Kd.N_far (p := ⟨gb553, 4, none⟩) (Kd.N_far (p := ⟨gb553, 3, none⟩) (Kd.N_far (p := ⟨gb553, 7, none⟩) (Kd.N_far (p := ⟨gb553, 6, none⟩) (Kd.N_mono HO559.out (fun k_ hk => (⟨hk, hk.1.2.2.2⟩ : _ ∧ k_ ≠ gb553))) (fun _ hk => hk.2) (.slice Ao16 t554.length co16)) (fun _ hk => hk.2) (.slice Ao18 t557.length co18)) (fun _ hk => hk.2) (.int .i64 t560)) (fun _ hk => hk.2) (.int .i64 t561)) (fun _ hk => hk.2) (.slice Ao22 t562.length co22)) (fun _ hk => ⟨hk.1.1.1, ⟨hk.1.1.2.1, ⟨hk.1.2, ⟨hk.1.1.2.2.1, hk.1.1.2.2.2⟩⟩⟩⟩)⟩, ⟨(blk_put (blk_put (blk_put (blk_put (blk_put BK553.out 6 _ rfl) 7 _ rfl) 3 _ rfl) 4 _ rfl) 5 _ rfl)⟩, ⟨ab10_⟩⟩
        rw [if_neg c26] at H
        have c26b0 : (t560 == 0) = false := beq_eq_false_iff_ne.mpr c26
        have c26b1 : (t560 != 0) = true := bne_iff_ne.mpr c26
        have H' := am H
        clear H
        obtain ⟨hcz28_0, hcz28_1, hcz28_2, hcz28_3, hcz28_4, hcz28_5, hcz28_6, hcz28_7, hfz28_0, hfz28_1, hfz28_2, hfz28_3, hfz28_4, hfz28_5, hfz28_6, hfz28_7⟩ := bcf8_ BK553.out
        go_wp2
        go_meet
        case rel => exact ⟨_, (false), sd_, H', ⟨by have := HK1.out; first | omega | exact Nat.le_refl _⟩, ⟨by (with_reducible repeat (first | apply Kd.N_alloc | apply Kd.N_drewN | apply Kd.N_drew)); exact Kd.N_mono (Kd.N_far (p := ⟨gb553, 5, none⟩) (Kd.N_far (p := ⟨gb553, 4, none⟩) (Kd.N_far (p := ⟨gb553, 3, none⟩) (Kd.N_far (p := ⟨gb553, 7, none⟩) (Kd.N_far (p := ⟨gb553, 6, none⟩) (Kd.N_mono HO_3.out (fun k_ hk => (⟨hk, hk.1.1.1.2⟩ : _ ∧ k_ ≠ gb553))) (fun _ hk => hk.2) (.slice Ao16 t554.length co16)) (fun _ hk => hk.2) (.slice Ao18 t557.length co18)) (fun _ hk => hk.2) (.int .i64 t560)) (fun _ hk => hk.2) (.int .i64 t561)) (fun _ hk => hk.2) (.slice Ao22 t562.length co22)) (fun _ hk => ⟨hk.1.1.1.1.1, ⟨hk.1.2, ⟨hk.1.1.1.2, ⟨hk.1.1.2, hk.1.1.1.1.2⟩⟩⟩⟩)⟩, ⟨by (with_reducible repeat (first | apply Kd.N_alloc | apply Kd.N_drewN | apply Kd.N_drew)); exact Kd.N_mono (Kd.N_far (p := ⟨gb553, 5, none⟩) (Kd.N_far (p := ⟨gb553, 4, none⟩) (Kd.N_far (p := ⟨gb553, 3, none⟩) (Kd.N_far (p := ⟨gb553, 7, none⟩) (Kd.N_far (p := ⟨gb553, 6, none⟩) (Kd.N_mono HO564.out (fun k_ hk => (⟨hk, hk.2.2.2.2⟩ : _ ∧ k_ ≠ gb553))) (fun _ hk => hk.2) (.slice Ao16 t554.length co16)) (fun _ hk => hk.2) (.slice Ao18 t557.length co18)) (fun _ hk => hk.2) (.int .i64 t560)) (fun _ hk => hk.2) (.int .i64 t561)) (fun _ hk => hk.2) (.slice Ao22 t562.length co22)) (fun _ hk => ⟨hk.1.1, ⟨hk.1.2.1, ⟨hk.1.2.2.1, ⟨hk.1.2.2.2.1, hk.1.2.2.2.2⟩⟩⟩⟩)⟩, ⟨by (with_reducible repeat (first | apply Kd.N_alloc | apply Kd.N_drewN | apply Kd.N_drew)); exact Kd.N_mono (Kd.N_far (p := ⟨gb553, 5, none⟩) (Kd.N_far (p := ⟨gb553, 4, none⟩) (Kd.N_far (p := ⟨gb553, 3, none⟩) (Kd.N_far (p := ⟨gb553, 7, none⟩) (Kd.N_far (p := ⟨gb553, 6, none⟩) (Kd.N_mono HO556.out (fun k_ hk => (⟨hk, hk.1.1.2.2⟩ : _ ∧ k_ ≠ gb553))) (fun _ hk => hk.2) (.slice Ao16 t554.length co16)) (fun _ hk => hk.2) (.slice Ao18 t557.length co18)) (fun _ hk => hk.2) (.int .i64 t560)) (fun _ hk => hk.2) (.int .i64 t561)) (fun _ hk => hk.2) (.slice Ao22 t562.length co22)) (fun _ hk => ⟨hk.1.1.1.1, ⟨hk.1.1.1.2.1, ⟨hk.1.2, ⟨hk.1.1.2, hk.1.1.1.2.2⟩⟩⟩⟩)⟩, ⟨by (with_reducible repeat (first | apply Kd.N_alloc | apply Kd.N_drewN | apply Kd.N_drew)); exact Kd.N_mono (Kd.N_far (p := ⟨gb553, 5, none⟩) (Kd.N_far (p := ⟨gb553, 4, none⟩) (Kd.N_far (p := ⟨gb553, 3, none⟩) (Kd.N_far (p := ⟨gb553, 7, none⟩) (Kd.N_far (p := ⟨gb553, 6, none⟩) (Kd.N_mono HO559.out (fun k_ hk => (⟨hk, hk.1.2.2.2⟩ : _ ∧ k_ ≠ gb553))) (fun _ hk => hk.2) (.slice Ao16 t554.length co16)) (fun _ hk => hk.2) (.slice Ao18 t557.length co18)) (fun _ hk => hk.2) (.int .i64 t560)) (fun _ hk => hk.2) (.int .i64 t561)) (fun _ hk => hk.2) (.slice Ao22 t562.length co22)) (fun _ hk => ⟨hk.1.1.1, ⟨hk.1.1.2.1, ⟨hk.1.2, ⟨hk.1.1.2.2.1, hk.1.1.2.2.2⟩⟩⟩⟩)⟩, ⟨(blk_put (blk_put (blk_put (blk_put (blk_put BK553.out 6 _ rfl) 7 _ rfl) 3 _ rfl) 4 _ rfl) 5 _ rfl)⟩, ⟨ab10_⟩⟩
       rw [if_neg c25] at H
       have c25b0 : (((rd_T35 l0 x9_1).f0) == 2) = false := beq_eq_false_iff_ne.mpr c25
       have c25b1 : (((rd_T35 l0 x9_1).f0) != 2) = true := bne_iff_ne.mpr c25
       (first | rw [c25b0] | (simp only [i64_w, i32_w]; rw [c25b0]) | skip)
       have H' := am H
       clear H
       obtain ⟨hcz29_0, hcz29_1, hcz29_2, hcz29_3, hcz29_4, hcz29_5, hcz29_6, hcz29_7, hfz29_0, hfz29_1, hfz29_2, hfz29_3, hfz29_4, hfz29_5, hfz29_6, hfz29_7⟩ := bcf8_ BK553.out
       go_wp2
       go_meet
       case rel => exact ⟨_, (false), sd_, H', ⟨by have := HK1.out; first | omega | exact Nat.le_refl _⟩, ⟨by (with_reducible repeat (first | apply Kd.N_alloc | apply Kd.N_drewN | apply Kd.N_drew)); exact Kd.N_mono (Kd.N_far (p := ⟨gb553, 5, none⟩) (Kd.N_far (p := ⟨gb553, 4, none⟩) (Kd.N_far (p := ⟨gb553, 3, none⟩) (Kd.N_far (p := ⟨gb553, 7, none⟩) (Kd.N_far (p := ⟨gb553, 6, none⟩) (Kd.N_mono HO_3.out (fun k_ hk => (⟨hk, hk.1.1.1.2⟩ : _ ∧ k_ ≠ gb553))) (fun _ hk => hk.2) (.slice Ao16 t554.length co16)) (fun _ hk => hk.2) (.slice Ao18 t557.length co18)) (fun _ hk => hk.2) (.int .i64 t560)) (fun _ hk => hk.2) (.int .i64 t561)) (fun _ hk => hk.2) (.slice Ao22 t562.length co22)) (fun _ hk => ⟨hk.1.1.1.1.1, ⟨hk.1.2, ⟨hk.1.1.1.2, ⟨hk.1.1.2, hk.1.1.1.1.2⟩⟩⟩⟩)⟩, ⟨by (with_reducible repeat (first | apply Kd.N_alloc | apply Kd.N_drewN | apply Kd.N_drew)); exact Kd.N_mono (Kd.N_far (p := ⟨gb553, 5, none⟩) (Kd.N_far (p := ⟨gb553, 4, none⟩) (Kd.N_far (p := ⟨gb553, 3, none⟩) (Kd.N_far (p := ⟨gb553, 7, none⟩) (Kd.N_far (p := ⟨gb553, 6, none⟩) (Kd.N_mono HO564.out (fun k_ hk => (⟨hk, hk.2.2.2.2⟩ : _ ∧ k_ ≠ gb553))) (fun _ hk => hk.2) (.slice Ao16 t554.length co16)) (fun _ hk => hk.2) (.slice Ao18 t557.length co18)) (fun _ hk => hk.2) (.int .i64 t560)) (fun _ hk => hk.2) (.int .i64 t561)) (fun _ hk => hk.2) (.slice Ao22 t562.length co22)) (fun _ hk => ⟨hk.1.1, ⟨hk.1.2.1, ⟨hk.1.2.2.1, ⟨hk.1.2.2.2.1, hk.1.2.2.2.2⟩⟩⟩⟩)⟩, ⟨by (with_reducible repeat (first | apply Kd.N_alloc | apply Kd.N_drewN | apply Kd.N_drew)); exact Kd.N_mono (Kd.N_far (p := ⟨gb553, 5, none⟩) (Kd.N_far (p := ⟨gb553, 4, none⟩) (Kd.N_far (p := ⟨gb553, 3, none⟩) (Kd.N_far (p := ⟨gb553, 7, none⟩) (Kd.N_far (p := ⟨gb553, 6, none⟩) (Kd.N_mono HO556.out (fun k_ hk => (⟨hk, hk.1.1.2.2⟩ : _ ∧ k_ ≠ gb553))) (fun _ hk => hk.2) (.slice Ao16 t554.length co16)) (fun _ hk => hk.2) (.slice Ao18 t557.length co18)) (fun _ hk => hk.2) (.int .i64 t560)) (fun _ hk => hk.2) (.int .i64 t561)) (fun _ hk => hk.2) (.slice Ao22 t562.length co22)) (fun _ hk => ⟨hk.1.1.1.1, ⟨hk.1.1.1.2.1, ⟨hk.1.2, ⟨hk.1.1.2, hk.1.1.1.2.2⟩⟩⟩⟩)⟩, ⟨by (with_reducible repeat (first | apply Kd.N_alloc | apply Kd.N_drewN | apply Kd.N_drew)); exact Kd.N_mono (Kd.N_far (p := ⟨gb553, 5, none⟩) (Kd.N_far (p := ⟨gb553, 4, none⟩) (Kd.N_far (p := ⟨gb553, 3, none⟩) (Kd.N_far (p := ⟨gb553, 7, none⟩) (Kd.N_far (p := ⟨gb553, 6, none⟩) (Kd.N_mono HO559.out (fun k_ hk => (⟨hk, hk.1.2.2.2⟩ : _ ∧ k_ ≠ gb553))) (fun _ hk => hk.2) (.slice Ao16 t554.length co16)) (fun _ hk => hk.2) (.slice Ao18 t557.length co18)) (fun _ hk => hk.2) (.int .i64 t560)) (fun _ hk => hk.2) (.int .i64 t561)) (fun _ hk => hk.2) (.slice Ao22 t562.length co22)) (fun _ hk => ⟨hk.1.1.1, ⟨hk.1.1.2.1, ⟨hk.1.2, ⟨hk.1.1.2.2.1, hk.1.1.2.2.2⟩⟩⟩⟩)⟩, ⟨(blk_put (blk_put (blk_put (blk_put (blk_put BK553.out 6 _ rfl) 7 _ rfl) 3 _ rfl) 4 _ rfl) 5 _ rfl)⟩, ⟨ab10_⟩⟩
      case rest =>
       clear HC8
       try clear c2
       try clear c2b0
       try clear c3
       try clear c3b0
       try clear c4
       try clear c4b0
       try clear hcz10_0
       try clear hcz10_1
       try clear hcz10_2
       try clear hcz10_3
       try clear hcz10_4
       try clear hcz10_5
       try clear hcz10_6
       try clear hcz10_7
       try clear hcz24_0
       try clear hcz24_1
       try clear hcz24_2
       try clear hcz24_3
       try clear hcz24_4
       try clear hcz24_5
       try clear hcz24_6
       try clear hcz24_7
       try clear hfz10_0
       try clear hfz10_1
       try clear hfz10_2
       try clear hfz10_3
       try clear hfz10_4
       try clear hfz10_5
       try clear hfz10_6
       try clear hfz10_7
       try clear hfz24_0
       try clear hfz24_1
       try clear hfz24_2
       try clear hfz24_3
       try clear hfz24_4
       try clear hfz24_5
       try clear hfz24_6
       try clear hfz24_7
       try clear hx552_0
       try clear hx552_1
       try clear hx552_2
       try clear hx552_3
       try clear hx552_4
       try clear hx552_5
       try clear hx552_6
       try clear hx552_7
       try clear p552
       try clear q552
       obtain ⟨kq, x33_7, rfl, HA, HJ7, HO_3, HO_554005, HO_554006, HO_554007, BK553, HB⟩ := hcut
       cases kq with
       | zero => exact absurd HA.out (by simp [impl_stmtsFold.j1])
       | succ kj7 =>
        have H := HA.out
        clear HA
        simp only [impl_stmtsFold.j1] at H
        by_cases c30 : x33_7 = true
        ·subst c30
         rw [if_pos rfl] at H
         by_cases c31 : x3_1.length + t554.length < 1256584717458
         ·rw [if_pos c31] at H
          have LMc31 := am c31
          clear c31
          obtain ⟨y565, hy565⟩ : ∃ y_ : List (S35), y_ = (x3_1 ++ t554) := ⟨_, rfl⟩
          replace H : (impl_stmtsFold.l0 kj7 y565 l0 (l0.length : Int) (wrap64 (x9_1 + 1))) = some r := by first | (rw [hy565]; with_reducible exact H) | (have H2_ := (Option.bind_some _ _).symm.trans H; rw [hy565]; with_reducible exact H2_) | (have H2_ := (Option.bind_some _ _).symm.trans H; with_reducible exact H2_) | with_reducible exact H | (rw [hy565]; exact H) | exact H
          have Ny565 := am hy565
          clear hy565
          have H' := am H
          clear H
          obtain ⟨hcz32_0, hcz32_1, hcz32_2, hcz32_3, hcz32_4, hcz32_5, hcz32_6, hcz32_7, hfz32_0, hfz32_1, hfz32_2, hfz32_3, hfz32_4, hfz32_5, hfz32_6, hfz32_7⟩ := bcf8_ BK553.out
          go_wp2_with (first | ((with_reducible refine gate_builtin (b := .append) (xs := #[.tmp 46, .tmp 48]) rfl ?_); at_builtin; refine Kd.N_append_rows k35 (w0 := w) w.heap.size rfl (.tmp 46) (.tmp 48) 23 35 (.agg #[(.int .i64 0), (.int .i64 0), (.int .i64 0), (.int .i64 0), (.int .i64 0), (.slice none 0 0), (.slice none 0 0), (.slice none 0 0)]) 112 rfl Try.underlying23 info35 rfl (by decide) (by omega) u3 x3_1 t554 _ _ _ (fun k_ => (w.heap.size ≤ k_) ∧ some k_ ≠ (.slice Ao22 t562.length co22 : Value).ownBlock ∧ some k_ ≠ (.slice Ao18 t557.length co18 : Value).ownBlock ∧ k_ ≠ gb553) (fun k_ => ((fun k_ => (w.heap.size ≤ k_) ∧ some k_ ≠ (.slice Ao22 t562.length co22 : Value).ownBlock ∧ some k_ ≠ (.slice Ao18 t557.length co18 : Value).ownBlock ∧ k_ ≠ gb553)) k_ ∧ some k_ ≠ (u3 : Value).ownBlock) rfl rfl ?aO ?aR (fun _ hk => hk) ?aF ?aB ?aS ?aL ?_; (case aR => exact (by skip; exact Kd.N_F (Kd.N_mono (ok' := (fun k_ => ((fun k_ => (w.heap.size ≤ k_) ∧ some k_ ≠ (.slice Ao22 t562.length co22 : Value).ownBlock ∧ some k_ ≠ (.slice Ao18 t557.length co18 : Value).ownBlock ∧ k_ ≠ gb553)) k_ ∧ some k_ ≠ (u3 : Value).ownBlock)) (HO_554006.out) (fun k_ hk => ⟨⟨hk.1, ⟨hk.2.2.1, ⟨hk.2.2.2.1, hk.2.2.2.2⟩⟩⟩, hk.2.1⟩)))); (case aB => exact ab10_); (case aF => exact (fun k_ hk => ⟨(Nat.le_trans (below_size ab10_) hk), Kd.fresh' (Kd.N_lt (aN_ HO_554005.out)) k_ hk, Kd.fresh' (Kd.N_lt (aN_ HO_554007.out)) k_ hk, frb_ BK553.out k_ hk⟩)); (case aO => exact (by (with_reducible repeat (first | apply Kd.N_alloc | apply Kd.N_drewN | apply Kd.N_drew)); exact Kd.N_mono HO_3.out (fun _ hk => ⟨hk.1, ⟨hk.2.1, ⟨hk.2.2.2.1, hk.2.2.2.2⟩⟩⟩))); (case aS => exact (below_size ab10_)); (case aL => have := LMc31.out; omega); intro v566 w33 ho hb hg hat; rw [← Ny565.out] at ho; replace HO_554005 := am (Kd.N_afterv (ok := (fun k_ => (w.heap.size ≤ k_) ∧ some k_ ≠ (.slice Ao16 t554.length co16 : Value).ownBlock ∧ some k_ ≠ (.slice Ao18 t557.length co18 : Value).ownBlock ∧ k_ ≠ gb553)) (by (with_reducible repeat (first | apply Kd.N_alloc | apply Kd.N_drewN | apply Kd.N_drew)); exact Kd.N_mono HO_554005.out (fun _ hk => ⟨⟨hk.1, ⟨hk.2.2.1, ⟨hk.2.2.2.1, hk.2.2.2.2⟩⟩⟩, hk.2.1⟩)) hg hat); replace HO_554006 := am (Kd.N_afterv (ok := (fun k_ => (w.heap.size ≤ k_) ∧ some k_ ≠ (.slice Ao22 t562.length co22 : Value).ownBlock ∧ some k_ ≠ (.slice Ao18 t557.length co18 : Value).ownBlock ∧ k_ ≠ gb553)) (by (with_reducible repeat (first | apply Kd.N_alloc | apply Kd.N_drewN | apply Kd.N_drew)); exact Kd.N_mono HO_554006.out (fun _ hk => ⟨⟨hk.1, ⟨hk.2.2.1, ⟨hk.2.2.2.1, hk.2.2.2.2⟩⟩⟩, hk.2.1⟩)) hg hat); replace HO_554007 := am (Kd.N_afterv (ok := (fun k_ => (w.heap.size ≤ k_) ∧ some k_ ≠ (.slice Ao22 t562.length co22 : Value).ownBlock ∧ some k_ ≠ (.slice Ao16 t554.length co16 : Value).ownBlock ∧ k_ ≠ gb553)) (by (with_reducible repeat (first | apply Kd.N_alloc | apply Kd.N_drewN | apply Kd.N_drew)); exact Kd.N_mono HO_554007.out (fun _ hk => ⟨⟨hk.1, ⟨hk.2.2.1, ⟨hk.2.2.2.1, hk.2.2.2.2⟩⟩⟩, hk.2.1⟩)) hg hat); replace BK553 := am (blk_grown (g := gb553) (o := .cells #[.int .i64 ((rd_T35 l0 x9_1).f0), .int .i64 ((rd_T35 l0 x9_1).f1), .int .i64 ((rd_T35 l0 x9_1).f2), .int .i64 t560, .int .i64 t561, .slice Ao22 t562.length co22, .slice Ao16 t554.length co16, .slice Ao18 t557.length co18] 35 (0, 0)) (aG_ BK553.out) hg (Kd.N_away HO_3.out (fun _ hk => hk.2.2.2.2))); replace HB := am (hb); have HO567 := am (ho); clear HO_3 ho hb hg hat))
          go_roundg kj7
          case measure => have := HK1.out; have := HJ7.out; omega
          case rel => exact ⟨(y565), (wrap64 (x9_1 + 1)), sd_, H', ⟨by have := HK1.out; have := HJ7.out; omega⟩, ⟨by (with_reducible repeat (first | apply Kd.N_alloc | apply Kd.N_drewN | apply Kd.N_drew)); exact Kd.N_mono HO567.out (fun _ hk => hk.1)⟩, ⟨ab10_⟩⟩
         rw [if_neg c31] at H
         exact absurd H (by simp)
        replace c30 := Bool.eq_false_iff.mpr c30
        subst c30
        rw [if_neg (show ¬ (false = true) by decide)] at H
        have HC34 := am H
        clear H
        go_upto_region 10 with (fail)
        go_cut [50] (fun v50 wc => ∃ (kq : Nat) (x50_33 : Bool), v50 = .bool x50_33 ∧ Aside0 (impl_stmtsFold.j2 kq x3_1 (t560 == 0) l0 (l0.length : Int) x9_1 x50_33 ((rd_T35 l0 x9_1).f0) ((rd_T35 l0 x9_1).f1) ((rd_T35 l0 x9_1).f2) t560 t561 t562 t554 t557 = some r) ∧ Aside0 (kq ≤ kj7) ∧ Aside0 (Kd.N k35 35 wc w.heap.size (fun k_ => (w.heap.size ≤ k_) ∧ some k_ ≠ ((.slice Ao22 t562.length co22) : Value).ownBlock ∧ some k_ ≠ ((.slice Ao16 t554.length co16) : Value).ownBlock ∧ some k_ ≠ ((.slice Ao18 t557.length co18) : Value).ownBlock ∧ k_ ≠ gb553) u3 x3_1) ∧ Aside0 (Kd.N k32 32 wc w.heap.size (fun k_ => (w.heap.size ≤ k_) ∧ some k_ ≠ (u3 : Value).ownBlock ∧ some k_ ≠ ((.slice Ao16 t554.length co16) : Value).ownBlock ∧ some k_ ≠ ((.slice Ao18 t557.length co18) : Value).ownBlock ∧ k_ ≠ gb553) (.slice Ao22 t562.length co22) t562) ∧ Aside0 (Kd.N k35 35 wc w.heap.size (fun k_ => (w.heap.size ≤ k_) ∧ some k_ ≠ (u3 : Value).ownBlock ∧ some k_ ≠ ((.slice Ao22 t562.length co22) : Value).ownBlock ∧ some k_ ≠ ((.slice Ao18 t557.length co18) : Value).ownBlock ∧ k_ ≠ gb553) (.slice Ao16 t554.length co16) t554) ∧ Aside0 (Kd.N k35 35 wc w.heap.size (fun k_ => (w.heap.size ≤ k_) ∧ some k_ ≠ (u3 : Value).ownBlock ∧ some k_ ≠ ((.slice Ao22 t562.length co22) : Value).ownBlock ∧ some k_ ≠ ((.slice Ao16 t554.length co16) : Value).ownBlock ∧ k_ ≠ gb553) (.slice Ao18 t557.length co18) t557) ∧ Aside0 (wc.heap[gb553]? = some (.cells #[.int .i64 ((rd_T35 l0 x9_1).f0), .int .i64 ((rd_T35 l0 x9_1).f1), .int .i64 ((rd_T35 l0 x9_1).f2), .int .i64 t560, .int .i64 t561, (.slice Ao22 t562.length co22), (.slice Ao16 t554.length co16), (.slice Ao18 t557.length co18)] 35 (0, 0))) ∧ Aside0 (Below w.heap.size w wc))
        case first =>
         have H := HC34.out
         clear HC34
         by_cases c35 : ((rd_T35 l0 x9_1).f0) = 2
         ·rw [if_pos c35] at H
          have c35b0 : (((rd_T35 l0 x9_1).f0) == 2) = true := beq_iff_eq.mpr c35
          have c35b1 : (((rd_T35 l0 x9_1).f0) != 2) = false := bne_eq_false_iff_eq.mpr c35
          clear c35
          (first | rw [c35b0] | (simp only [i64_w, i32_w]; rw [c35b0]) | skip)
          have H' := am H
          clear H
          obtain ⟨hcz36_0, hcz36_1, hcz36_2, hcz36_3, hcz36_4, hcz36_5, hcz36_6, hcz36_7, hfz36_0, hfz36_1, hfz36_2, hfz36_3, hfz36_4, hfz36_5, hfz36_6, hfz36_7⟩ := bcf8_ BK553.out
          go_wp2
          go_meet
          case rel => exact ⟨_, ((t560 == 0)), sd_, H', ⟨by have := HK1.out; have := HJ7.out; first | omega | exact Nat.le_refl _⟩, ⟨by (with_reducible repeat (first | apply Kd.N_alloc | apply Kd.N_drewN | apply Kd.N_drew)); exact HO_3.out⟩, ⟨by (with_reducible repeat (first | apply Kd.N_alloc | apply Kd.N_drewN | apply Kd.N_drew)); exact HO_554005.out⟩, ⟨by (with_reducible repeat (first | apply Kd.N_alloc | apply Kd.N_drewN | apply Kd.N_drew)); exact HO_554006.out⟩, ⟨by (with_reducible repeat (first | apply Kd.N_alloc | apply Kd.N_drewN | apply Kd.N_drew)); exact HO_554007.out⟩, ⟨by (with_reducible repeat (first | refine blk_drewN ?_ _ | refine blk_drew ?_ | refine blk_alloc ?_ _)); exact BK553.out⟩, ⟨ab10_⟩⟩
         rw [if_neg c35] at H
         have c35b0 : (((rd_T35 l0 x9_1).f0) == 2) = false := beq_eq_false_iff_ne.mpr c35
         have c35b1 : (((rd_T35 l0 x9_1).f0) != 2) = true := bne_iff_ne.mpr c35
         (first | rw [c35b0] | (simp only [i64_w, i32_w]; rw [c35b0]) | skip)
         have H' := am H
         clear H
         obtain ⟨hcz37_0, hcz37_1, hcz37_2, hcz37_3, hcz37_4, hcz37_5, hcz37_6, hcz37_7, hfz37_0, hfz37_1, hfz37_2, hfz37_3, hfz37_4, hfz37_5, hfz37_6, hfz37_7⟩ := bcf8_ BK553.out
         go_wp2
         go_meet
         case rel => exact ⟨_, (false), sd_, H', ⟨by have := HK1.out; have := HJ7.out; first | omega | exact Nat.le_refl _⟩, ⟨by (with_reducible repeat (first | apply Kd.N_alloc | apply Kd.N_drewN | apply Kd.N_drew)); exact HO_3.out⟩, ⟨by (with_reducible repeat (first | apply Kd.N_alloc | apply Kd.N_drewN | apply Kd.N_drew)); exact HO_554005.out⟩, ⟨by (with_reducible repeat (first | apply Kd.N_alloc | apply Kd.N_drewN | apply Kd.N_drew)); exact HO_554006.out⟩, ⟨by (with_reducible repeat (first | apply Kd.N_alloc | apply Kd.N_drewN | apply Kd.N_drew)); exact HO_554007.out⟩, ⟨by (with_reducible repeat (first | refine blk_drewN ?_ _ | refine blk_drew ?_ | refine blk_alloc ?_ _)); exact BK553.out⟩, ⟨ab10_⟩⟩
        case rest =>
         clear HC34
         try clear c2
         try clear c2b0
         try clear c3
         try clear c3b0
         try clear c4
         try clear c4b0
         try clear c30
         try clear hcz10_0
         try clear hcz10_1
         try clear hcz10_2
         try clear hcz10_3
         try clear hcz10_4
         try clear hcz10_5
         try clear hcz10_6
         try clear hcz10_7
         try clear hcz24_0
         try clear hcz24_1
         try clear hcz24_2
         try clear hcz24_3
         try clear hcz24_4
         try clear hcz24_5
         try clear hcz24_6
         try clear hcz24_7
         try clear hfz10_0
         try clear hfz10_1
         try clear hfz10_2
         try clear hfz10_3
         try clear hfz10_4
         try clear hfz10_5
         try clear hfz10_6
         try clear hfz10_7
         try clear hfz24_0
         try clear hfz24_1
         try clear hfz24_2
         try clear hfz24_3
         try clear hfz24_4
         try clear hfz24_5
         try clear hfz24_6
         try clear hfz24_7
         try clear hx552_0
         try clear hx552_1
         try clear hx552_2
         try clear hx552_3
         try clear hx552_4
         try clear hx552_5
         try clear hx552_6
         try clear hx552_7
         try clear p552
         try clear q552
         obtain ⟨kq, x50_33, rfl, HA, HJ33, HO_3, HO_554005, HO_554006, HO_554007, BK553, HB⟩ := hcut
         cases kq with
         | zero => exact absurd HA.out (by simp [impl_stmtsFold.j2])
         | succ kj33 =>
          have H := HA.out
          clear HA
          simp only [impl_stmtsFold.j2] at H
          by_cases c38 : x50_33 = true
          ·subst c38
           rw [if_pos rfl] at H
           by_cases c39 : x3_1.length + t557.length < 1256584717458
           ·rw [if_pos c39] at H
            have LMc39 := am c39
            clear c39
            obtain ⟨y568, hy568⟩ : ∃ y_ : List (S35), y_ = (x3_1 ++ t557) := ⟨_, rfl⟩
            replace H : (impl_stmtsFold.l0 kj33 y568 l0 (l0.length : Int) (wrap64 (x9_1 + 1))) = some r := by first | (rw [hy568]; with_reducible exact H) | (have H2_ := (Option.bind_some _ _).symm.trans H; rw [hy568]; with_reducible exact H2_) | (have H2_ := (Option.bind_some _ _).symm.trans H; with_reducible exact H2_) | with_reducible exact H | (rw [hy568]; exact H) | exact H
            have Ny568 := am hy568
            clear hy568
            have H' := am H
            clear H
            obtain ⟨hcz40_0, hcz40_1, hcz40_2, hcz40_3, hcz40_4, hcz40_5, hcz40_6, hcz40_7, hfz40_0, hfz40_1, hfz40_2, hfz40_3, hfz40_4, hfz40_5, hfz40_6, hfz40_7⟩ := bcf8_ BK553.out
            go_wp2_with (first | ((with_reducible refine gate_builtin (b := .append) (xs := #[.tmp 57, .tmp 59]) rfl ?_); at_builtin; refine Kd.N_append_rows k35 (w0 := w) w.heap.size rfl (.tmp 57) (.tmp 59) 23 35 (.agg #[(.int .i64 0), (.int .i64 0), (.int .i64 0), (.int .i64 0), (.int .i64 0), (.slice none 0 0), (.slice none 0 0), (.slice none 0 0)]) 112 rfl Try.underlying23 info35 rfl (by decide) (by omega) u3 x3_1 t557 _ _ _ (fun k_ => (w.heap.size ≤ k_) ∧ some k_ ≠ (.slice Ao22 t562.length co22 : Value).ownBlock ∧ some k_ ≠ (.slice Ao16 t554.length co16 : Value).ownBlock ∧ k_ ≠ gb553) (fun k_ => ((fun k_ => (w.heap.size ≤ k_) ∧ some k_ ≠ (.slice Ao22 t562.length co22 : Value).ownBlock ∧ some k_ ≠ (.slice Ao16 t554.length co16 : Value).ownBlock ∧ k_ ≠ gb553)) k_ ∧ some k_ ≠ (u3 : Value).ownBlock) rfl rfl ?aO ?aR (fun _ hk => hk) ?aF ?aB ?aS ?aL ?_; (case aR => exact (by skip; exact Kd.N_F (Kd.N_mono (ok' := (fun k_ => ((fun k_ => (w.heap.size ≤ k_) ∧ some k_ ≠ (.slice Ao22 t562.length co22 : Value).ownBlock ∧ some k_ ≠ (.slice Ao16 t554.length co16 : Value).ownBlock ∧ k_ ≠ gb553)) k_ ∧ some k_ ≠ (u3 : Value).ownBlock)) (HO_554007.out) (fun k_ hk => ⟨⟨hk.1, ⟨hk.2.2.1, ⟨hk.2.2.2.1, hk.2.2.2.2⟩⟩⟩, hk.2.1⟩)))); (case aB => exact ab10_); (case aF => exact (fun k_ hk => ⟨(Nat.le_trans (below_size ab10_) hk), Kd.fresh' (Kd.N_lt (aN_ HO_554005.out)) k_ hk, Kd.fresh' (Kd.N_lt (aN_ HO_554006.out)) k_ hk, frb_ BK553.out k_ hk⟩)); (case aO => exact (by (with_reducible repeat (first | apply Kd.N_alloc | apply Kd.N_drewN | apply Kd.N_drew)); exact Kd.N_mono HO_3.out (fun _ hk => ⟨hk.1, ⟨hk.2.1, ⟨hk.2.2.1, hk.2.2.2.2⟩⟩⟩))); (case aS => exact (below_size ab10_)); (case aL => have := LMc39.out; omega); intro v569 w41 ho hb hg hat; rw [← Ny568.out] at ho; replace HO_554005 := am (Kd.N_afterv (ok := (fun k_ => (w.heap.size ≤ k_) ∧ some k_ ≠ (.slice Ao16 t554.length co16 : Value).ownBlock ∧ some k_ ≠ (.slice Ao18 t557.length co18 : Value).ownBlock ∧ k_ ≠ gb553)) (by (with_reducible repeat (first | apply Kd.N_alloc | apply Kd.N_drewN | apply Kd.N_drew)); exact Kd.N_mono HO_554005.out (fun _ hk => ⟨⟨hk.1, ⟨hk.2.2.1, ⟨hk.2.2.2.1, hk.2.2.2.2⟩⟩⟩, hk.2.1⟩)) hg hat); replace HO_554006 := am (Kd.N_afterv (ok := (fun k_ => (w.heap.size ≤ k_) ∧ some k_ ≠ (.slice Ao22 t562.length co22 : Value).ownBlock ∧ some k_ ≠ (.slice Ao18 t557.length co18 : Value).ownBlock ∧ k_ ≠ gb553)) (by (with_reducible repeat (first | apply Kd.N_alloc | apply Kd.N_drewN | apply Kd.N_drew)); exact Kd.N_mono HO_554006.out (fun _ hk => ⟨⟨hk.1, ⟨hk.2.2.1, ⟨hk.2.2.2.1, hk.2.2.2.2⟩⟩⟩, hk.2.1⟩)) hg hat); replace HO_554007 := am (Kd.N_afterv (ok := (fun k_ => (w.heap.size ≤ k_) ∧ some k_ ≠ (.slice Ao22 t562.length co22 : Value).ownBlock ∧ some k_ ≠ (.slice Ao16 t554.length co16 : Value).ownBlock ∧ k_ ≠ gb553)) (by (with_reducible repeat (first | apply Kd.N_alloc | apply Kd.N_drewN | apply Kd.N_drew)); exact Kd.N_mono HO_554007.out (fun _ hk => ⟨⟨hk.1, ⟨hk.2.2.1, ⟨hk.2.2.2.1, hk.2.2.2.2⟩⟩⟩, hk.2.1⟩)) hg hat); replace BK553 := am (blk_grown (g := gb553) (o := .cells #[.int .i64 ((rd_T35 l0 x9_1).f0), .int .i64 ((rd_T35 l0 x9_1).f1), .int .i64 ((rd_T35 l0 x9_1).f2), .int .i64 t560, .int .i64 t561, .slice Ao22 t562.length co22, .slice Ao16 t554.length co16, .slice Ao18 t557.length co18] 35 (0, 0)) (aG_ BK553.out) hg (Kd.N_away HO_3.out (fun _ hk => hk.2.2.2.2))); replace HB := am (hb); have HO570 := am (ho); clear HO_3 ho hb hg hat))
            go_roundg kj33
            case measure => have := HK1.out; have := HJ7.out; have := HJ33.out; omega
            case rel => exact ⟨(y568), (wrap64 (x9_1 + 1)), sd_, H', ⟨by have := HK1.out; have := HJ7.out; have := HJ33.out; omega⟩, ⟨by (with_reducible repeat (first | apply Kd.N_alloc | apply Kd.N_drewN | apply Kd.N_drew)); exact Kd.N_mono HO570.out (fun _ hk => hk.1)⟩, ⟨ab10_⟩⟩
           rw [if_neg c39] at H
           exact absurd H (by simp)
          replace c38 := Bool.eq_false_iff.mpr c38
          subst c38
          rw [if_neg (show ¬ (false = true) by decide)] at H
          by_cases c42 : ((rd_T35 l0 x9_1).f0) = 3
          ·rw [if_pos c42] at H
           have c42b0 : (((rd_T35 l0 x9_1).f0) == 3) = true := beq_iff_eq.mpr c42
           have c42b1 : (((rd_T35 l0 x9_1).f0) != 3) = false := bne_eq_false_iff_eq.mpr c42
           clear c42
           by_cases c43 : (t560 == 0) = true
           ·rw [if_pos c43] at H
            have c43b0 : (t560 == 0) = true := c43
            (try (have c43b1 : decide (t560 = 0) = true := by simpa using c43))
            (try (have c43b2 : (t560 == 0) = true := by simpa using c43))
            clear c43
            by_cases c44 : t561 = 0
            ·rw [if_pos c44] at H
             have c44b0 : (t561 == 0) = true := beq_iff_eq.mpr c44
             have c44b1 : (t561 != 0) = false := bne_eq_false_iff_eq.mpr c44
             clear c44
             have H' := am H
             clear H
             obtain ⟨hcz45_0, hcz45_1, hcz45_2, hcz45_3, hcz45_4, hcz45_5, hcz45_6, hcz45_7, hfz45_0, hfz45_1, hfz45_2, hfz45_3, hfz45_4, hfz45_5, hfz45_6, hfz45_7⟩ := bcf8_ BK553.out
             go_wp2
             go_roundg kj33
             case measure => have := HK1.out; have := HJ7.out; have := HJ33.out; omega
             case rel => exact ⟨(x3_1), (wrap64 (x9_1 + 1)), sd_, H', ⟨by have := HK1.out; have := HJ7.out; have := HJ33.out; omega⟩, ⟨by (with_reducible repeat (first | apply Kd.N_alloc | apply Kd.N_drewN | apply Kd.N_drew)); exact Kd.N_mono HO_3.out (fun _ hk => hk.1)⟩, ⟨ab10_⟩⟩
            rw [if_neg c44] at H
            have c44b0 : (t561 == 0) = false := beq_eq_false_iff_ne.mpr c44
            have c44b1 : (t561 != 0) = true := bne_iff_ne.mpr c44
            by_cases c46 : x3_1.length < 1256584717458
            ·rw [if_pos c46] at H
             have LMc46 := am c46
             clear c46
             obtain ⟨y571, hy571⟩ : ∃ y_ : List (S35), y_ = (x3_1 ++ [(⟨((rd_T35 l0 x9_1).f0), ((rd_T35 l0 x9_1).f1), ((rd_T35 l0 x9_1).f2), (⟨t560, t561, t562⟩ : S32), t554, t557⟩ : S35)]) := ⟨_, rfl⟩
             replace H : (impl_stmtsFold.l0 kj33 y571 l0 (l0.length : Int) (wrap64 (x9_1 + 1))) = some r := by first | (rw [hy571]; with_reducible exact H) | (have H2_ := (Option.bind_some _ _).symm.trans H; rw [hy571]; with_reducible exact H2_) | (have H2_ := (Option.bind_some _ _).symm.trans H; with_reducible exact H2_) | with_reducible exact H | (rw [hy571]; exact H) | exact H
             have Ny571 := am hy571
             clear hy571
             have H' := am H
             clear H
             obtain ⟨hcz47_0, hcz47_1, hcz47_2, hcz47_3, hcz47_4, hcz47_5, hcz47_6, hcz47_7, hfz47_0, hfz47_1, hfz47_2, hfz47_3, hfz47_4, hfz47_5, hfz47_6, hfz47_7⟩ := bcf8_ BK553.out
             go_wp2_with (first | ((with_reducible refine gate_builtin (b := .append) (xs := #[.tmp 29, .tmp 31]) rfl ?_); at_builtin; refine Kd.N_append k35 (w0 := w) w.heap.size rfl (.tmp 29) (.tmp 31) 23 35 (.agg #[(.int .i64 0), (.int .i64 0), (.int .i64 0), (.int .i64 0), (.int .i64 0), (.slice none 0 0), (.slice none 0 0), (.slice none 0 0)]) 112 rfl Try.underlying23 info35 rfl (by decide) (by omega) u3 x3_1 (⟨((rd_T35 l0 x9_1).f0), ((rd_T35 l0 x9_1).f1), ((rd_T35 l0 x9_1).f2), (⟨t560, t561, t562⟩ : S32), t554, t557⟩ : S35) [.int .i64 ((rd_T35 l0 x9_1).f0), .int .i64 ((rd_T35 l0 x9_1).f1), .int .i64 ((rd_T35 l0 x9_1).f2), .int .i64 t560, .int .i64 t561, .slice Ao22 t562.length co22, .slice Ao16 t554.length co16, .slice Ao18 t557.length co18] (fun k_ => (w.heap.size ≤ k_) ∧ k_ ≠ gb553) (fun k_ => ((fun k_ => (w.heap.size ≤ k_) ∧ k_ ≠ gb553)) k_ ∧ some k_ ≠ (u3 : Value).ownBlock) rfl rfl ?aP (fun _ hk => hk) ?aF ?aO ?aB ?aS ?aL ?_; (case aP => exact (k35_mkF _ _ (⟨((rd_T35 l0 x9_1).f0), ((rd_T35 l0 x9_1).f1), ((rd_T35 l0 x9_1).f2), (⟨t560, t561, t562⟩ : S32), t554, t557⟩ : S35) (Kd.N_reads' (Kd.N_mono (ok' := (fun k_ => ((fun k_ => (w.heap.size ≤ k_) ∧ k_ ≠ gb553)) k_ ∧ some k_ ≠ (u3 : Value).ownBlock)) (HO_554005.out) (fun k_ hk => ⟨⟨hk.1, hk.2.2.2.2⟩, hk.2.1⟩))).2.1 (Kd.N_F (Kd.N_mono (ok' := (fun k_ => ((fun k_ => (w.heap.size ≤ k_) ∧ k_ ≠ gb553)) k_ ∧ some k_ ≠ (u3 : Value).ownBlock)) (HO_554005.out) (fun k_ hk => ⟨⟨hk.1, hk.2.2.2.2⟩, hk.2.1⟩))) (Kd.N_reads' (Kd.N_mono (ok' := (fun k_ => ((fun k_ => (w.heap.size ≤ k_) ∧ k_ ≠ gb553)) k_ ∧ some k_ ≠ (u3 : Value).ownBlock)) (HO_554006.out) (fun k_ hk => ⟨⟨hk.1, hk.2.2.2.2⟩, hk.2.1⟩))).2.1 (Kd.N_F (Kd.N_mono (ok' := (fun k_ => ((fun k_ => (w.heap.size ≤ k_) ∧ k_ ≠ gb553)) k_ ∧ some k_ ≠ (u3 : Value).ownBlock)) (HO_554006.out) (fun k_ hk => ⟨⟨hk.1, hk.2.2.2.2⟩, hk.2.1⟩))) (Kd.N_reads' (Kd.N_mono (ok' := (fun k_ => ((fun k_ => (w.heap.size ≤ k_) ∧ k_ ≠ gb553)) k_ ∧ some k_ ≠ (u3 : Value).ownBlock)) (HO_554007.out) (fun k_ hk => ⟨⟨hk.1, hk.2.2.2.2⟩, hk.2.1⟩))).2.1 (Kd.N_F (Kd.N_mono (ok' := (fun k_ => ((fun k_ => (w.heap.size ≤ k_) ∧ k_ ≠ gb553)) k_ ∧ some k_ ≠ (u3 : Value).ownBlock)) (HO_554007.out) (fun k_ hk => ⟨⟨hk.1, hk.2.2.2.2⟩, hk.2.1⟩))))); (case aB => exact ab10_); (case aF => exact (fun k_ hk => ⟨(Nat.le_trans (below_size ab10_) hk), frb_ BK553.out k_ hk⟩)); (case aO => exact (by (with_reducible repeat (first | apply Kd.N_alloc | apply Kd.N_drewN | apply Kd.N_drew)); exact Kd.N_mono HO_3.out (fun _ hk => ⟨hk.1, hk.2.2.2.2⟩))); (case aS => exact (below_size ab10_)); (case aL => have := LMc46.out; omega); intro v572 w48 ho hb hg hat; rw [← Ny571.out] at ho; replace BK553 := am (blk_grown (g := gb553) (o := .cells #[.int .i64 ((rd_T35 l0 x9_1).f0), .int .i64 ((rd_T35 l0 x9_1).f1), .int .i64 ((rd_T35 l0 x9_1).f2), .int .i64 t560, .int .i64 t561, .slice Ao22 t562.length co22, .slice Ao16 t554.length co16, .slice Ao18 t557.length co18] 35 (0, 0)) (aG_ BK553.out) hg (Kd.N_away HO_3.out (fun _ hk => hk.2.2.2.2))); replace HB := am (hb); have HO573 := am (ho); clear HO_3 HO_554005 HO_554006 HO_554007 ho hb hg hat))
             go_roundg kj33
             case measure => have := HK1.out; have := HJ7.out; have := HJ33.out; omega
             case rel => exact ⟨(y571), (wrap64 (x9_1 + 1)), sd_, H', ⟨by have := HK1.out; have := HJ7.out; have := HJ33.out; omega⟩, ⟨by (with_reducible repeat (first | apply Kd.N_alloc | apply Kd.N_drewN | apply Kd.N_drew)); exact Kd.N_mono HO573.out (fun _ hk => hk.1)⟩, ⟨ab10_⟩⟩
            rw [if_neg c46] at H
            exact absurd H (by simp)
           rw [if_neg c43] at H
           have c43b0 : (t560 == 0) = false := by simpa using c43
           (try (have c43b1 : decide (t560 = 0) = false := by simpa using c43))
           (try (have c43b2 : (t560 == 0) = false := by simpa using c43))
           (try (have c43b3 : ¬ (t560 = 0) := by simpa using c43))
           clear c43
           by_cases c49 : x3_1.length < 1256584717458
           ·rw [if_pos c49] at H
            have LMc49 := am c49
            clear c49
            obtain ⟨y574, hy574⟩ : ∃ y_ : List (S35), y_ = (x3_1 ++ [(⟨((rd_T35 l0 x9_1).f0), ((rd_T35 l0 x9_1).f1), ((rd_T35 l0 x9_1).f2), (⟨t560, t561, t562⟩ : S32), t554, t557⟩ : S35)]) := ⟨_, rfl⟩
            replace H : (impl_stmtsFold.l0 kj33 y574 l0 (l0.length : Int) (wrap64 (x9_1 + 1))) = some r := by first | (rw [hy574]; with_reducible exact H) | (have H2_ := (Option.bind_some _ _).symm.trans H; rw [hy574]; with_reducible exact H2_) | (have H2_ := (Option.bind_some _ _).symm.trans H; with_reducible exact H2_) | with_reducible exact H | (rw [hy574]; exact H) | exact H
            have Ny574 := am hy574
            clear hy574
            have H' := am H
            clear H
            obtain ⟨hcz50_0, hcz50_1, hcz50_2, hcz50_3, hcz50_4, hcz50_5, hcz50_6, hcz50_7, hfz50_0, hfz50_1, hfz50_2, hfz50_3, hfz50_4, hfz50_5, hfz50_6, hfz50_7⟩ := bcf8_ BK553.out
            go_wp2_with (first | ((with_reducible refine gate_builtin (b := .append) (xs := #[.tmp 29, .tmp 31]) rfl ?_); at_builtin; refine Kd.N_append k35 (w0 := w) w.heap.size rfl (.tmp 29) (.tmp 31) 23 35 (.agg #[(.int .i64 0), (.int .i64 0), (.int .i64 0), (.int .i64 0), (.int .i64 0), (.slice none 0 0), (.slice none 0 0), (.slice none 0 0)]) 112 rfl Try.underlying23 info35 rfl (by decide) (by omega) u3 x3_1 (⟨((rd_T35 l0 x9_1).f0), ((rd_T35 l0 x9_1).f1), ((rd_T35 l0 x9_1).f2), (⟨t560, t561, t562⟩ : S32), t554, t557⟩ : S35) [.int .i64 ((rd_T35 l0 x9_1).f0), .int .i64 ((rd_T35 l0 x9_1).f1), .int .i64 ((rd_T35 l0 x9_1).f2), .int .i64 t560, .int .i64 t561, .slice Ao22 t562.length co22, .slice Ao16 t554.length co16, .slice Ao18 t557.length co18] (fun k_ => (w.heap.size ≤ k_) ∧ k_ ≠ gb553) (fun k_ => ((fun k_ => (w.heap.size ≤ k_) ∧ k_ ≠ gb553)) k_ ∧ some k_ ≠ (u3 : Value).ownBlock) rfl rfl ?aP (fun _ hk => hk) ?aF ?aO ?aB ?aS ?aL ?_; (case aP => exact (k35_mkF _ _ (⟨((rd_T35 l0 x9_1).f0), ((rd_T35 l0 x9_1).f1), ((rd_T35 l0 x9_1).f2), (⟨t560, t561, t562⟩ : S32), t554, t557⟩ : S35) (Kd.N_reads' (Kd.N_mono (ok' := (fun k_ => ((fun k_ => (w.heap.size ≤ k_) ∧ k_ ≠ gb553)) k_ ∧ some k_ ≠ (u3 : Value).ownBlock)) (HO_554005.out) (fun k_ hk => ⟨⟨hk.1, hk.2.2.2.2⟩, hk.2.1⟩))).2.1 (Kd.N_F (Kd.N_mono (ok' := (fun k_ => ((fun k_ => (w.heap.size ≤ k_) ∧ k_ ≠ gb553)) k_ ∧ some k_ ≠ (u3 : Value).ownBlock)) (HO_554005.out) (fun k_ hk => ⟨⟨hk.1, hk.2.2.2.2⟩, hk.2.1⟩))) (Kd.N_reads' (Kd.N_mono (ok' := (fun k_ => ((fun k_ => (w.heap.size ≤ k_) ∧ k_ ≠ gb553)) k_ ∧ some k_ ≠ (u3 : Value).ownBlock)) (HO_554006.out) (fun k_ hk => ⟨⟨hk.1, hk.2.2.2.2⟩, hk.2.1⟩))).2.1 (Kd.N_F (Kd.N_mono (ok' := (fun k_ => ((fun k_ => (w.heap.size ≤ k_) ∧ k_ ≠ gb553)) k_ ∧ some k_ ≠ (u3 : Value).ownBlock)) (HO_554006.out) (fun k_ hk => ⟨⟨hk.1, hk.2.2.2.2⟩, hk.2.1⟩))) (Kd.N_reads' (Kd.N_mono (ok' := (fun k_ => ((fun k_ => (w.heap.size ≤ k_) ∧ k_ ≠ gb553)) k_ ∧ some k_ ≠ (u3 : Value).ownBlock)) (HO_554007.out) (fun k_ hk => ⟨⟨hk.1, hk.2.2.2.2⟩, hk.2.1⟩))).2.1 (Kd.N_F (Kd.N_mono (ok' := (fun k_ => ((fun k_ => (w.heap.size ≤ k_) ∧ k_ ≠ gb553)) k_ ∧ some k_ ≠ (u3 : Value).ownBlock)) (HO_554007.out) (fun k_ hk => ⟨⟨hk.1, hk.2.2.2.2⟩, hk.2.1⟩))))); (case aB => exact ab10_); (case aF => exact (fun k_ hk => ⟨(Nat.le_trans (below_size ab10_) hk), frb_ BK553.out k_ hk⟩)); (case aO => exact (by (with_reducible repeat (first | apply Kd.N_alloc | apply Kd.N_drewN | apply Kd.N_drew)); exact Kd.N_mono HO_3.out (fun _ hk => ⟨hk.1, hk.2.2.2.2⟩))); (case aS => exact (below_size ab10_)); (case aL => have := LMc49.out; omega); intro v575 w51 ho hb hg hat; rw [← Ny574.out] at ho; replace BK553 := am (blk_grown (g := gb553) (o := .cells #[.int .i64 ((rd_T35 l0 x9_1).f0), .int .i64 ((rd_T35 l0 x9_1).f1), .int .i64 ((rd_T35 l0 x9_1).f2), .int .i64 t560, .int .i64 t561, .slice Ao22 t562.length co22, .slice Ao16 t554.length co16, .slice Ao18 t557.length co18] 35 (0, 0)) (aG_ BK553.out) hg (Kd.N_away HO_3.out (fun _ hk => hk.2.2.2.2))); replace HB := am (hb); have HO576 := am (ho); clear HO_3 HO_554005 HO_554006 HO_554007 ho hb hg hat))
            go_roundg kj33
            case measure => have := HK1.out; have := HJ7.out; have := HJ33.out; omega
            case rel => exact ⟨(y574), (wrap64 (x9_1 + 1)), sd_, H', ⟨by have := HK1.out; have := HJ7.out; have := HJ33.out; omega⟩, ⟨by (with_reducible repeat (first | apply Kd.N_alloc | apply Kd.N_drewN | apply Kd.N_drew)); exact Kd.N_mono HO576.out (fun _ hk => hk.1)⟩, ⟨ab10_⟩⟩
           rw [if_neg c49] at H
           exact absurd H (by simp)
          rw [if_neg c42] at H
          have c42b0 : (((rd_T35 l0 x9_1).f0) == 3) = false := beq_eq_false_iff_ne.mpr c42
          have c42b1 : (((rd_T35 l0 x9_1).f0) != 3) = true := bne_iff_ne.mpr c42
          by_cases c52 : x3_1.length < 1256584717458
          ·rw [if_pos c52] at H
           have LMc52 := am c52
           clear c52
           obtain ⟨y577, hy577⟩ : ∃ y_ : List (S35), y_ = (x3_1 ++ [(⟨((rd_T35 l0 x9_1).f0), ((rd_T35 l0 x9_1).f1), ((rd_T35 l0 x9_1).f2), (⟨t560, t561, t562⟩ : S32), t554, t557⟩ : S35)]) := ⟨_, rfl⟩
           replace H : (impl_stmtsFold.l0 kj33 y577 l0 (l0.length : Int) (wrap64 (x9_1 + 1))) = some r := by first | (rw [hy577]; with_reducible exact H) | (have H2_ := (Option.bind_some _ _).symm.trans H; rw [hy577]; with_reducible exact H2_) | (have H2_ := (Option.bind_some _ _).symm.trans H; with_reducible exact H2_) | with_reducible exact H | (rw [hy577]; exact H) | exact H
           have Ny577 := am hy577
           clear hy577
           have H' := am H
           clear H
           obtain ⟨hcz53_0, hcz53_1, hcz53_2, hcz53_3, hcz53_4, hcz53_5, hcz53_6, hcz53_7, hfz53_0, hfz53_1, hfz53_2, hfz53_3, hfz53_4, hfz53_5, hfz53_6, hfz53_7⟩ := bcf8_ BK553.out
           go_wp2_with (first | ((with_reducible refine gate_builtin (b := .append) (xs := #[.tmp 29, .tmp 31]) rfl ?_); at_builtin; refine Kd.N_append k35 (w0 := w) w.heap.size rfl (.tmp 29) (.tmp 31) 23 35 (.agg #[(.int .i64 0), (.int .i64 0), (.int .i64 0), (.int .i64 0), (.int .i64 0), (.slice none 0 0), (.slice none 0 0), (.slice none 0 0)]) 112 rfl Try.underlying23 info35 rfl (by decide) (by omega) u3 x3_1 (⟨((rd_T35 l0 x9_1).f0), ((rd_T35 l0 x9_1).f1), ((rd_T35 l0 x9_1).f2), (⟨t560, t561, t562⟩ : S32), t554, t557⟩ : S35) [.int .i64 ((rd_T35 l0 x9_1).f0), .int .i64 ((rd_T35 l0 x9_1).f1), .int .i64 ((rd_T35 l0 x9_1).f2), .int .i64 t560, .int .i64 t561, .slice Ao22 t562.length co22, .slice Ao16 t554.length co16, .slice Ao18 t557.length co18] (fun k_ => (w.heap.size ≤ k_) ∧ k_ ≠ gb553) (fun k_ => ((fun k_ => (w.heap.size ≤ k_) ∧ k_ ≠ gb553)) k_ ∧ some k_ ≠ (u3 : Value).ownBlock) rfl rfl ?aP (fun _ hk => hk) ?aF ?aO ?aB ?aS ?aL ?_; (case aP => exact (k35_mkF _ _ (⟨((rd_T35 l0 x9_1).f0), ((rd_T35 l0 x9_1).f1), ((rd_T35 l0 x9_1).f2), (⟨t560, t561, t562⟩ : S32), t554, t557⟩ : S35) (Kd.N_reads' (Kd.N_mono (ok' := (fun k_ => ((fun k_ => (w.heap.size ≤ k_) ∧ k_ ≠ gb553)) k_ ∧ some k_ ≠ (u3 : Value).ownBlock)) (HO_554005.out) (fun k_ hk => ⟨⟨hk.1, hk.2.2.2.2⟩, hk.2.1⟩))).2.1 (Kd.N_F (Kd.N_mono (ok' := (fun k_ => ((fun k_ => (w.heap.size ≤ k_) ∧ k_ ≠ gb553)) k_ ∧ some k_ ≠ (u3 : Value).ownBlock)) (HO_554005.out) (fun k_ hk => ⟨⟨hk.1, hk.2.2.2.2⟩, hk.2.1⟩))) (Kd.N_reads' (Kd.N_mono (ok' := (fun k_ => ((fun k_ => (w.heap.size ≤ k_) ∧ k_ ≠ gb553)) k_ ∧ some k_ ≠ (u3 : Value).ownBlock)) (HO_554006.out) (fun k_ hk => ⟨⟨hk.1, hk.2.2.2.2⟩, hk.2.1⟩))).2.1 (Kd.N_F (Kd.N_mono (ok' := (fun k_ => ((fun k_ => (w.heap.size ≤ k_) ∧ k_ ≠ gb553)) k_ ∧ some k_ ≠ (u3 : Value).ownBlock)) (HO_554006.out) (fun k_ hk => ⟨⟨hk.1, hk.2.2.2.2⟩, hk.2.1⟩))) (Kd.N_reads' (Kd.N_mono (ok' := (fun k_ => ((fun k_ => (w.heap.size ≤ k_) ∧ k_ ≠ gb553)) k_ ∧ some k_ ≠ (u3 : Value).ownBlock)) (HO_554007.out) (fun k_ hk => ⟨⟨hk.1, hk.2.2.2.2⟩, hk.2.1⟩))).2.1 (Kd.N_F (Kd.N_mono (ok' := (fun k_ => ((fun k_ => (w.heap.size ≤ k_) ∧ k_ ≠ gb553)) k_ ∧ some k_ ≠ (u3 : Value).ownBlock)) (HO_554007.out) (fun k_ hk => ⟨⟨hk.1, hk.2.2.2.2⟩, hk.2.1⟩))))); (case aB => exact ab10_); (case aF => exact (fun k_ hk => ⟨(Nat.le_trans (below_size ab10_) hk), frb_ BK553.out k_ hk⟩)); (case aO => exact (by (with_reducible repeat (first | apply Kd.N_alloc | apply Kd.N_drewN | apply Kd.N_drew)); exact Kd.N_mono HO_3.out (fun _ hk => ⟨hk.1, hk.2.2.2.2⟩))); (case aS => exact (below_size ab10_)); (case aL => have := LMc52.out; omega); intro v578 w54 ho hb hg hat; rw [← Ny577.out] at ho; replace BK553 := am (blk_grown (g := gb553) (o := .cells #[.int .i64 ((rd_T35 l0 x9_1).f0), .int .i64 ((rd_T35 l0 x9_1).f1), .int .i64 ((rd_T35 l0 x9_1).f2), .int .i64 t560, .int .i64 t561, .slice Ao22 t562.length co22, .slice Ao16 t554.length co16, .slice Ao18 t557.length co18] 35 (0, 0)) (aG_ BK553.out) hg (Kd.N_away HO_3.out (fun _ hk => hk.2.2.2.2))); replace HB := am (hb); have HO579 := am (ho); clear HO_3 HO_554005 HO_554006 HO_554007 ho hb hg hat))
           go_roundg kj33
           case measure => have := HK1.out; have := HJ7.out; have := HJ33.out; omega
           case rel => exact ⟨(y577), (wrap64 (x9_1 + 1)), sd_, H', ⟨by have := HK1.out; have := HJ7.out; have := HJ33.out; omega⟩, ⟨by (with_reducible repeat (first | apply Kd.N_alloc | apply Kd.N_drewN | apply Kd.N_drew)); exact Kd.N_mono HO579.out (fun _ hk => hk.1)⟩, ⟨ab10_⟩⟩
          rw [if_neg c52] at H
          exact absurd H (by simp)
     rw [if_neg c4] at H
     exact absurd H (by simp)
    rw [if_neg c3] at H
    exact absurd H (by simp)
   rw [if_neg c2] at H
   have c2b0 : decide (x9_1 < (l0.length : Int)) = false := decide_eq_false c2
   clear c2
   obtain rfl := Option.some.inj H
   go_wp2
   go_ret
   exact ⟨_, ab11_, by (with_reducible repeat (first | apply Kd.N_alloc | apply Kd.N_drewN | apply Kd.N_drew)); exact HO_3.out, ab2_⟩
theorem impl_StmtsFold.mono : ∀ a0 k, LeO (impl_StmtsFold.f k a0) (impl_StmtsFold.f (k + 1) a0) := by
 intro a0 k
 unfold impl_StmtsFold.f
 repeat' first
   | (with_reducible exact impl_StmtsValid.mono _ _)
   | (with_reducible exact impl_stmtsFold.mono _ _)
   | (with_reducible exact LeO.refl _)
   | (with_reducible exact LeO.none _)
   | (with_reducible refine LeO.ite ?_ ?_)
   | (with_reducible refine LeO.bind ?_ (fun _ => ?_))
theorem impl_StmtsFold.calls (k : Nat) (A0 : Option Addr) (c0 : Nat) (l0 : List (S35)) (r1 : List (S35)) (r2 : Bool) (w : World) (hr0 : Kd.C k35 w A0 l0.length l0) (hc0 : l0.length ≤ c0) (h : impl_StmtsFold.f k l0 = some (r1, r2)) :
  Calls Try.prog 13 #[.slice A0 l0.length c0] w fun e w' => ∃ v0_ : Value, e = .returned (.tuple #[v0_, .bool r2]) ∧ Kd.N k35 35 w' w.heap.size (fun k_ => (w.heap.size ≤ k_)) v0_ r1 ∧ Below w.heap.size w w' := by
 have HR0 := am hr0
 have HC0 := am hc0
 clear hr0 hc0
 have HB := am (Below.refl w.heap.size w)
 have H : ((impl_StmtsValid.f k l0).bind fun t580 => (if t580 = true then ((impl_stmtsFold.f k l0).bind fun t581 => (some (t581, true))) else (some (([] : List (S35)), false)))) = some (r1, r2) := h
 clear h
 obtain ⟨t580, A20, H⟩ := bsm H
 (try dsimp only at H)
 have A2 := am A20
 clear A20
 by_cases c3 : t580 = true
 ·subst c3
  rw [if_pos rfl] at H
  obtain ⟨t581, A40, H⟩ := bsm H
  (try dsimp only at H)
  have A4 := am A40
  clear A40
  simp only [Option.some.injEq, Prod.mk.injEq] at H
  obtain ⟨rfl, rfl⟩ := H
  go_enter Try.func13, Try.ntmps13
  go_wp2_with (first | ((with_reducible refine gate_callee (f := 17) rfl ?_); refine goesL_ (some 5) rfl rfl Try.func17 (by kernel_rfl) rfl #[.slice A0 l0.length c0] rfl ab1_ ?_; (with_reducible refine (impl_StmtsValid.calls k _ _ l0 true _ ?side1 HC0.out A2.out).mono ?_); (case side1 => repeat (first | exact HR0.out | (with_reducible refine Kd.C_alloc ?_ _) | (with_reducible refine Kd.C_drewN ?_ _) | (with_reducible refine Kd.C_drew ?_))); rintro e w5 ⟨rfl, hb⟩; refine ⟨_, rfl, ?_⟩; replace HB := am (below_step ab2_ hb); (try clear hb); (try clear hb2); (try clear hk); (try clear hi)) | ((with_reducible refine gate_callee (f := 46) rfl ?_); refine goesL_ (some 8) rfl rfl Try.func46 (by kernel_rfl) rfl #[.slice A0 l0.length c0] rfl ab1_ ?_; (with_reducible refine (impl_stmtsFold.calls k _ _ l0 t581 _ (aC_ (Kd.C_below HR0.out HB.out)) HC0.out A4.out).mono ?_); rintro e w6 ⟨v582, rfl, ho0, hb⟩; refine ⟨_, rfl, ?_⟩; have HO583 := am (Kd.N_lower (Kd.N_mono (ok' := fun k_ => (w.heap.size ≤ k_)) ho0 (fun k_ hk_ => (Nat.le_trans (below_size ab2_) hk_))) (below_size ab2_)); replace HB := am (below_step ab2_ hb); (try clear hb); (try clear hb2); (try clear hk); (try clear hi); (try clear ho0)))
  go_ret2
  exact ⟨_, ab11_, by (with_reducible repeat (first | apply Kd.N_alloc | apply Kd.N_drewN | apply Kd.N_drew)); exact HO583.out, ab2_⟩
 replace c3 := Bool.eq_false_iff.mpr c3
 subst c3
 rw [if_neg (show ¬ (false = true) by decide)] at H
 simp only [Option.some.injEq, Prod.mk.injEq] at H
 obtain ⟨rfl, rfl⟩ := H
 go_enter Try.func13, Try.ntmps13
 go_wp2_with (first | ((with_reducible refine gate_callee (f := 17) rfl ?_); refine goesL_ (some 5) rfl rfl Try.func17 (by kernel_rfl) rfl #[.slice A0 l0.length c0] rfl ab1_ ?_; (with_reducible refine (impl_StmtsValid.calls k _ _ l0 false _ ?side1 HC0.out A2.out).mono ?_); (case side1 => repeat (first | exact HR0.out | (with_reducible refine Kd.C_alloc ?_ _) | (with_reducible refine Kd.C_drewN ?_ _) | (with_reducible refine Kd.C_drew ?_))); rintro e w7 ⟨rfl, hb⟩; refine ⟨_, rfl, ?_⟩; replace HB := am (below_step ab2_ hb); (try clear hb); (try clear hb2); (try clear hk); (try clear hi)))
 go_ret2
 exact ⟨_, ab11_, by first | exact Kd.R_nil _ _ _ _ _ | exact Kd.N_nil _ _ _ _ _ | exact Kd.V_nil _ _ _ _ _ | exact Kd.Q_nil _ _ _ _ _ | exact Kd.S_nil _ _ _ _ _, ab2_⟩
theorem spec_l6In.calls (a0 : Int) (a1 : Int) (a2 : Int) (r : Bool) (w : World) (h : spec_l6In.f a0 a1 a2 = some r) :
  Calls Try.prog 88 #[.int .i64 a0, .int .i64 a1, .int .i64 a2] w fun e w' => e = .returned (.bool r) ∧ Drawn0 w w' := by
 have H : (if a0 ≥ a1 then (some (decide (a0 ≤ a2))) else (some false)) = some r := h
 clear h
 by_cases c4 : a0 ≥ a1
 ·rw [if_pos c4] at H
  have c4b0 : decide (a1 ≤ a0) = true := decide_eq_true c4
  clear c4
  obtain rfl := Option.some.inj H
  go_enter Try.func88, Try.ntmps88
  go_wp2
  go_ret
  exact ⟨by first | rfl | (simp; done) | (simp [*]; done), ab18_⟩
 rw [if_neg c4] at H
 have c4b0 : decide (a1 ≤ a0) = false := decide_eq_false c4
 clear c4
 obtain rfl := Option.some.inj H
 go_enter Try.func88, Try.ntmps88
 go_wp2
 go_ret
 exact ⟨by first | rfl | (simp; done) | (simp [*]; done), ab18_⟩
theorem spec_OpValid.calls (a0 : Int) (r : Bool) (w : World) (h : spec_OpValid.f a0 = some r) :
  Calls Try.prog 117 #[.int .i64 a0] w fun e w' => e = .returned (.bool r) ∧ Drawn0 w w' := by
 have H : ((spec_l6In.f a0 1 12).bind fun t588 => (some t588)) = some r := h
 clear h
 obtain ⟨t588, A20, H⟩ := bsm H
 (try dsimp only at H)
 have A2 := am A20
 clear A20
 obtain rfl := Option.some.inj H
 go_enter Try.func117, Try.ntmps117
 go_wp2_with (first | ((with_reducible refine gate_callee (f := 88) rfl ?_); refine goesL_ (some 4) rfl rfl Try.func88 (by kernel_rfl) rfl #[.int .i64 a0, .int .i64 1, .int .i64 12] rfl ab1_ ?_; (with_reducible refine (spec_l6In.calls a0 1 12 t588 _ A2.out).mono ?_); rintro e w' ⟨rfl, ⟨nd, rfl⟩⟩; refine ⟨_, rfl, ?_⟩))
 go_ret
 exact ⟨by first | rfl | (simp; done) | (simp [*]; done), ab18_⟩
theorem spec_l4Ok.mono_l : ∀ k, (∀ y0 y1 y2 y3, LeO (spec_l4Ok.f k y0 y1 y2 y3) (spec_l4Ok.f (k + 1) y0 y1 y2 y3))
 | 0 => fun _ _ _ _ r h => by simp [spec_l4Ok.f] at h
 | k + 1 => by
  have ih0 := spec_l4Ok.mono_l k
  ·intro y0 y1 y2 y3
   unfold spec_l4Ok.f
   repeat' first
   | (with_reducible exact ih0 _ _ _ _)
   | (with_reducible exact LeO.refl _)
   | (with_reducible exact LeO.none _)
   | (with_reducible refine LeO.ite ?_ ?_)
   | (with_reducible refine LeO.bind ?_ (fun _ => ?_))
theorem spec_l4Ok.mono : ∀ a0 a1 a2 a3 k, LeO (spec_l4Ok.f k a0 a1 a2 a3) (spec_l4Ok.f (k + 1) a0 a1 a2 a3) := by
 intro a0 a1 a2 a3 k
 have ih0 := spec_l4Ok.mono_l k
 exact ih0 a0 a1 a2 a3
theorem spec_l4Ok.calls (k : Nat) : ∀ (a0_0 : Int) (a0_1 : Int) (A0_2 : Option Addr) (c0_2 : Nat) (l0_2 : List (S32)) (a1 : Int) (r : Bool) (w : World) (hr0_2 : Kd.C k32 w A0_2 l0_2.length l0_2) (hc0_2 : l0_2.length ≤ c0_2) (h : spec_l4Ok.f k a0_0 a0_1 l0_2 a1 = some r),
  Calls Try.prog 116 #[.agg #[.int .i64 a0_0, .int .i64 a0_1, .slice A0_2 l0_2.length c0_2], .int .i64 a1] w fun e w' => e = .returned (.bool r) ∧ Below w.heap.size w w' := by
 induction k using Nat.strongRecOn with
 | _ k ih =>
 intro a0_0 a0_1 A0_2 c0_2 l0_2 a1 r w hr0_2 hc0_2 h
 cases k with
 | zero => exact absurd h (by simp [spec_l4Ok.f])
 | succ k =>
 simp only [spec_l4Ok.f] at h
 have hu32 := Try.underlying32
 have HR0_2 := am hr0_2
 have HC0_2 := am hc0_2
 clear hr0_2 hc0_2
 have HB := am (Below.refl w.heap.size w)
 have H : (if a1 < 1 then (some false) else (if a0_0 = 0 then ((spec_l6In.f a0_1 0 99999).bind fun t590 => (if t590 = true then (some ((l0_2.length : Int) == 0)) else (some false))) else (if a0_0 = 13 then ((spec_l6In.f a0_1 0 3).bind fun t591 => (if t591 = true then (some ((l0_2.length : Int) == 0)) else (some false))) else ((spec_OpValid.f a0_0).bind fun t592 => (if t592 = true then (if a0_1 = 0 then (if (l0_2.length : Int) = 2 then (if 0 < (l0_2.length : Int) then ((spec_l4Ok.f k ((rd_T32 l0_2 0).f0) ((rd_T32 l0_2 0).f1) ((rd_T32 l0_2 0).f2) (wrap64 (a1 - 1))).bind fun t594 => (if t594 = true then (if 1 < (l0_2.length : Int) then ((spec_l4Ok.f k ((rd_T32 l0_2 1).f0) ((rd_T32 l0_2 1).f1) ((rd_T32 l0_2 1).f2) (wrap64 (a1 - 1))).bind fun t596 => (some t596)) else (none)) else (some false))) else (none)) else (some false)) else (some false)) else (some false)))))) = some r := h
 clear h
 have HH_ := am H
 clear H
 go_enter Try.func116, Try.ntmps116
 go_upto_region 1 with (first | ((with_reducible refine gate_dst (N := 2) rfl ?_); (try (refine gate_guard (by rfl) ?_; dsimp only)); refine box_event rfl (N := 2) rfl (cs := #[.int .i64 a0_0, .int .i64 a0_1, .slice A0_2 l0_2.length c0_2]) (t := 32) rn_ ?_; intro gb589 hg w4 hbox hb; have BK589 := am (hbox); have GW589 := am ((by rw [hg]; exact (below_size ab2_) : w.heap.size ≤ gb589)); have GE589 := am ((by rw [hg]; exact (below_size ab2_) : w.heap.size ≤ gb589)); replace HB := am (below_step ab2_ hb); clear hb hbox hg))
 have H := HH_.out
 clear HH_
 by_cases c3 : a1 < 1
 ·rw [if_pos c3] at H
  have c3b0 : decide (a1 < 1) = true := decide_eq_true c3
  clear c3
  obtain rfl := Option.some.inj H
  go_wp2
  go_ret
  exact ⟨rr_, ab28_⟩
 rw [if_neg c3] at H
 have c3b0 : decide (a1 < 1) = false := decide_eq_false c3
 clear c3
 by_cases c5 : a0_0 = 0
 ·rw [if_pos c5] at H
  have c5b0 : (a0_0 == 0) = true := beq_iff_eq.mpr c5
  have c5b1 : (a0_0 != 0) = false := bne_eq_false_iff_eq.mpr c5
  clear c5
  obtain ⟨t590, A60, H⟩ := bsm H
  (try dsimp only at H)
  have A6 := am A60
  clear A60
  by_cases c7 : t590 = true
  ·subst c7
   rw [if_pos rfl] at H
   obtain rfl := Option.some.inj H
   obtain ⟨hcz9_0, hcz9_1, hcz9_2, hfz9_0, hfz9_1, hfz9_2⟩ := bcf3_ BK589.out
   go_wp2_with (first | ((with_reducible refine gate_callee (f := 88) rfl ?_); refine goesL_ (some 12) rfl rfl Try.func88 (by kernel_rfl) rfl #[.int .i64 a0_1, .int .i64 0, .int .i64 99999] rfl ab1_ ?_; (with_reducible refine (spec_l6In.calls a0_1 0 99999 true _ A6.out).mono ?_); rintro e w' ⟨rfl, ⟨nd, rfl⟩⟩; refine ⟨_, rfl, ?_⟩))
   go_ret
   exact ⟨rr_, ab28_⟩
  replace c7 := Bool.eq_false_iff.mpr c7
  subst c7
  rw [if_neg (show ¬ (false = true) by decide)] at H
  obtain rfl := Option.some.inj H
  obtain ⟨hcz11_0, hcz11_1, hcz11_2, hfz11_0, hfz11_1, hfz11_2⟩ := bcf3_ BK589.out
  go_wp2_with (first | ((with_reducible refine gate_callee (f := 88) rfl ?_); refine goesL_ (some 12) rfl rfl Try.func88 (by kernel_rfl) rfl #[.int .i64 a0_1, .int .i64 0, .int .i64 99999] rfl ab1_ ?_; (with_reducible refine (spec_l6In.calls a0_1 0 99999 false _ A6.out).mono ?_); rintro e w' ⟨rfl, ⟨nd, rfl⟩⟩; refine ⟨_, rfl, ?_⟩))
  go_ret
  exact ⟨rr_, ab28_⟩
 rw [if_neg c5] at H
 have c5b0 : (a0_0 == 0) = false := beq_eq_false_iff_ne.mpr c5
 have c5b1 : (a0_0 != 0) = true := bne_iff_ne.mpr c5
 by_cases c12 : a0_0 = 13
 ·rw [if_pos c12] at H
  have c12b0 : (a0_0 == 13) = true := beq_iff_eq.mpr c12
  have c12b1 : (a0_0 != 13) = false := bne_eq_false_iff_eq.mpr c12
  clear c12
  obtain ⟨t591, A130, H⟩ := bsm H
  (try dsimp only at H)
  have A13 := am A130
  clear A130
  by_cases c14 : t591 = true
  ·subst c14
   rw [if_pos rfl] at H
   obtain rfl := Option.some.inj H
   obtain ⟨hcz16_0, hcz16_1, hcz16_2, hfz16_0, hfz16_1, hfz16_2⟩ := bcf3_ BK589.out
   go_wp2_with (first | ((with_reducible refine gate_callee (f := 88) rfl ?_); refine goesL_ (some 24) rfl rfl Try.func88 (by kernel_rfl) rfl #[.int .i64 a0_1, .int .i64 0, .int .i64 3] rfl ab1_ ?_; (with_reducible refine (spec_l6In.calls a0_1 0 3 true _ A13.out).mono ?_); rintro e w' ⟨rfl, ⟨nd, rfl⟩⟩; refine ⟨_, rfl, ?_⟩))
   go_ret
   exact ⟨rr_, ab28_⟩
  replace c14 := Bool.eq_false_iff.mpr c14
  subst c14
  rw [if_neg (show ¬ (false = true) by decide)] at H
  obtain rfl := Option.some.inj H
  obtain ⟨hcz18_0, hcz18_1, hcz18_2, hfz18_0, hfz18_1, hfz18_2⟩ := bcf3_ BK589.out
  go_wp2_with (first | ((with_reducible refine gate_callee (f := 88) rfl ?_); refine goesL_ (some 24) rfl rfl Try.func88 (by kernel_rfl) rfl #[.int .i64 a0_1, .int .i64 0, .int .i64 3] rfl ab1_ ?_; (with_reducible refine (spec_l6In.calls a0_1 0 3 false _ A13.out).mono ?_); rintro e w' ⟨rfl, ⟨nd, rfl⟩⟩; refine ⟨_, rfl, ?_⟩))
  go_ret
  exact ⟨rr_, ab28_⟩
 rw [if_neg c12] at H
 have c12b0 : (a0_0 == 13) = false := beq_eq_false_iff_ne.mpr c12
 have c12b1 : (a0_0 != 13) = true := bne_iff_ne.mpr c12
 obtain ⟨t592, A190, H⟩ := bsm H
 (try dsimp only at H)
 have A19 := am A190
 clear A190
 by_cases c20 : t592 = true
 ·subst c20
  rw [if_pos rfl] at H
  by_cases c21 : a0_1 = 0
  ·rw [if_pos c21] at H
   have c21b0 : (a0_1 == 0) = true := beq_iff_eq.mpr c21
   have c21b1 : (a0_1 != 0) = false := bne_eq_false_iff_eq.mpr c21
   clear c21
   by_cases c22 : (l0_2.length : Int) = 2
   ·rw [if_pos c22] at H
    have c22b0 : ((l0_2.length : Int) == 2) = true := beq_iff_eq.mpr c22
    have c22b1 : ((l0_2.length : Int) != 2) = false := bne_eq_false_iff_eq.mpr c22
    clear c22
    by_cases c23 : 0 < (l0_2.length : Int)
    ·rw [if_pos c23] at H
     have c23b0 : decide (0 < (l0_2.length : Int)) = true := decide_eq_true c23
     have c23b1 : decide (0 < l0_2.length) = true := decide_eq_true (by omega)
     clear c23
     obtain ⟨t594, A240, H⟩ := bsm H
     (try dsimp only at H)
     have A24 := am A240
     clear A240
     by_cases c25 : t594 = true
     ·subst c25
      rw [if_pos rfl] at H
      by_cases c26 : 1 < (l0_2.length : Int)
      ·rw [if_pos c26] at H
       have c26b0 : decide (1 < (l0_2.length : Int)) = true := decide_eq_true c26
       have c26b1 : decide (1 < l0_2.length) = true := decide_eq_true (by omega)
       clear c26
       obtain ⟨t596, A270, H⟩ := bsm H
       (try dsimp only at H)
       have A27 := am A270
       clear A270
       obtain rfl := Option.some.inj H
       obtain ⟨hcz29_0, hcz29_1, hcz29_2, hfz29_0, hfz29_1, hfz29_2⟩ := bcf3_ BK589.out
       go_wp2_with (first | ((with_reducible refine gate_callee (f := 117) rfl ?_); refine goesL_ (some 33) rfl rfl Try.func117 (by kernel_rfl) rfl #[.int .i64 a0_0] rfl ab1_ ?_; (with_reducible refine (spec_OpValid.calls a0_0 true _ A19.out).mono ?_); rintro e w' ⟨rfl, ⟨nd, rfl⟩⟩; refine ⟨_, rfl, ?_⟩; have p593 : 0 ≤ (0 : Int) := (by omega); have q593 : 0 < (l0_2.length : Int) := of_decide_eq_true asm_; obtain ⟨ad593, A593_2, c593_2, e593, hx593_0, hx593_1, hx593_2, hl593_2, hi593_2⟩ := at_T32 HR0_2.out 0 p593 q593; cases e593; have qi593 : (0 < l0_2.length) = True := eq_true (by omega); (try rw [show ((0 : Int)).toNat = 0 from rfl] at hx593_0); (try rw [show 0 * 3 = 0 from rfl] at hx593_0); (try rw [Addr.add_zero'] at hx593_0); (try rw [show ((0 : Int)).toNat = 0 from rfl] at hx593_1); (try rw [show 0 * 3 = 0 from rfl] at hx593_1); (try rw [Addr.add_zero'] at hx593_1); (try rw [show ((0 : Int)).toNat = 0 from rfl] at hx593_2); (try rw [show 0 * 3 = 0 from rfl] at hx593_2); (try rw [Addr.add_zero'] at hx593_2); replace hx593_0 := (HB.out.cell (World.block_lt_of_cell? w _ hx593_0)).trans hx593_0; replace hx593_1 := (HB.out.cell (World.block_lt_of_cell? w _ hx593_1)).trans hx593_1; replace hx593_2 := (HB.out.cell (World.block_lt_of_cell? w _ hx593_2)).trans hx593_2; have HR593_2 := am hi593_2; have HC593_2 := am hl593_2; clear hi593_2 hl593_2; replace p593 := eq_true p593; replace q593 := eq_true q593) | (go_at_call 116; (with_reducible refine (ih k (by omega) ((rd_T32 l0_2 0).f0) ((rd_T32 l0_2 0).f1) _ _ ((rd_T32 l0_2 0).f2) (wrap64 (a1 - 1)) true _ (aC_ (Kd.C_below HR593_2.out ab28_)) HC593_2.out A24.out).mono ?_); rintro e w30 ⟨rfl, hb⟩; replace BK589 := am (bbl_ BK589.out hb); replace HB := am (below_step ab28_ hb); (try clear hb); (try clear hb2); (try clear hk); (try clear hi); obtain ⟨hcz31_0, hcz31_1, hcz31_2, hfz31_0, hfz31_1, hfz31_2⟩ := bcf3_ BK589.out; have p595 : 0 ≤ (1 : Int) := (by omega); have q595 : 1 < (l0_2.length : Int) := of_decide_eq_true asm_; obtain ⟨ad595, A595_2, c595_2, e595, hx595_0, hx595_1, hx595_2, hl595_2, hi595_2⟩ := at_T32 HR0_2.out 1 p595 q595; obtain rfl : ad593 = ad595 := (by injection e595); (try simp only [show (1 : Int).toNat = 1 from rfl, Nat.reduceMul, Nat.reduceEqDiff, Go.Addr.add, ↓reduceIte] at hx595_0); (try simp only [show (1 : Int).toNat = 1 from rfl, Nat.reduceMul, Nat.reduceEqDiff, Go.Addr.add, ↓reduceIte] at hx595_1); (try simp only [show (1 : Int).toNat = 1 from rfl, Nat.reduceMul, Nat.reduceEqDiff, Go.Addr.add, ↓reduceIte] at hx595_2); have qi595 : (1 < l0_2.length) = True := eq_true (by omega); (try rw [show ((1 : Int)).toNat = 1 from rfl] at hx595_0); (try rw [show 1 * 3 = 3 from rfl] at hx595_0); (try rw [show ((1 : Int)).toNat = 1 from rfl] at hx595_1); (try rw [show 1 * 3 = 3 from rfl] at hx595_1); (try rw [show ((1 : Int)).toNat = 1 from rfl] at hx595_2); (try rw [show 1 * 3 = 3 from rfl] at hx595_2); replace hx595_0 := (HB.out.cell (World.block_lt_of_cell? w _ hx595_0)).trans hx595_0; replace hx595_1 := (HB.out.cell (World.block_lt_of_cell? w _ hx595_1)).trans hx595_1; replace hx595_2 := (HB.out.cell (World.block_lt_of_cell? w _ hx595_2)).trans hx595_2; have HR595_2 := am hi595_2; have HC595_2 := am hl595_2; clear hi595_2 hl595_2; replace p595 := eq_true p595; replace q595 := eq_true q595) | (go_at_call 116; (with_reducible refine (ih k (by omega) ((rd_T32 l0_2 1).f0) ((rd_T32 l0_2 1).f1) _ _ ((rd_T32 l0_2 1).f2) (wrap64 (a1 - 1)) t596 _ (aC_ (Kd.C_below HR595_2.out HB.out)) HC595_2.out A27.out).mono ?_); rintro e w32 ⟨rfl, hb⟩; replace BK589 := am (bbl_ BK589.out hb); replace HB := am (below_step ab28_ hb); (try clear hb); (try clear hb2); (try clear hk); (try clear hi)))
       go_ret
       exact ⟨rr_, ab28_⟩
      rw [if_neg c26] at H
      exact absurd H (by simp)
     replace c25 := Bool.eq_false_iff.mpr c25
     subst c25
     rw [if_neg (show ¬ (false = true) by decide)] at H
     obtain rfl := Option.some.inj H
     obtain ⟨hcz34_0, hcz34_1, hcz34_2, hfz34_0, hfz34_1, hfz34_2⟩ := bcf3_ BK589.out
     go_wp2_with (first | ((with_reducible refine gate_callee (f := 117) rfl ?_); refine goesL_ (some 33) rfl rfl Try.func117 (by kernel_rfl) rfl #[.int .i64 a0_0] rfl ab1_ ?_; (with_reducible refine (spec_OpValid.calls a0_0 true _ A19.out).mono ?_); rintro e w' ⟨rfl, ⟨nd, rfl⟩⟩; refine ⟨_, rfl, ?_⟩; have p593 : 0 ≤ (0 : Int) := (by omega); have q593 : 0 < (l0_2.length : Int) := of_decide_eq_true asm_; obtain ⟨ad593, A593_2, c593_2, e593, hx593_0, hx593_1, hx593_2, hl593_2, hi593_2⟩ := at_T32 HR0_2.out 0 p593 q593; cases e593; have qi593 : (0 < l0_2.length) = True := eq_true (by omega); (try rw [show ((0 : Int)).toNat = 0 from rfl] at hx593_0); (try rw [show 0 * 3 = 0 from rfl] at hx593_0); (try rw [Addr.add_zero'] at hx593_0); (try rw [show ((0 : Int)).toNat = 0 from rfl] at hx593_1); (try rw [show 0 * 3 = 0 from rfl] at hx593_1); (try rw [Addr.add_zero'] at hx593_1); (try rw [show ((0 : Int)).toNat = 0 from rfl] at hx593_2); (try rw [show 0 * 3 = 0 from rfl] at hx593_2); (try rw [Addr.add_zero'] at hx593_2); replace hx593_0 := (HB.out.cell (World.block_lt_of_cell? w _ hx593_0)).trans hx593_0; replace hx593_1 := (HB.out.cell (World.block_lt_of_cell? w _ hx593_1)).trans hx593_1; replace hx593_2 := (HB.out.cell (World.block_lt_of_cell? w _ hx593_2)).trans hx593_2; have HR593_2 := am hi593_2; have HC593_2 := am hl593_2; clear hi593_2 hl593_2; replace p593 := eq_true p593; replace q593 := eq_true q593) | (go_at_call 116; (with_reducible refine (ih k (by omega) ((rd_T32 l0_2 0).f0) ((rd_T32 l0_2 0).f1) _ _ ((rd_T32 l0_2 0).f2) (wrap64 (a1 - 1)) false _ (aC_ (Kd.C_below HR593_2.out ab28_)) HC593_2.out A24.out).mono ?_); rintro e w35 ⟨rfl, hb⟩; replace BK589 := am (bbl_ BK589.out hb); replace HB := am (below_step ab28_ hb); (try clear hb); (try clear hb2); (try clear hk); (try clear hi)))
     go_ret
     exact ⟨rr_, ab28_⟩
    rw [if_neg c23] at H
    exact absurd H (by simp)
   rw [if_neg c22] at H
   have c22b0 : ((l0_2.length : Int) == 2) = false := beq_eq_false_iff_ne.mpr c22
   have c22b1 : ((l0_2.length : Int) != 2) = true := bne_iff_ne.mpr c22
   obtain rfl := Option.some.inj H
   obtain ⟨hcz37_0, hcz37_1, hcz37_2, hfz37_0, hfz37_1, hfz37_2⟩ := bcf3_ BK589.out
   go_wp2_with (first | ((with_reducible refine gate_callee (f := 117) rfl ?_); refine goesL_ (some 33) rfl rfl Try.func117 (by kernel_rfl) rfl #[.int .i64 a0_0] rfl ab1_ ?_; (with_reducible refine (spec_OpValid.calls a0_0 true _ A19.out).mono ?_); rintro e w' ⟨rfl, ⟨nd, rfl⟩⟩; refine ⟨_, rfl, ?_⟩))
   go_ret
   exact ⟨rr_, ab28_⟩
  rw [if_neg c21] at H
  have c21b0 : (a0_1 == 0) = false := beq_eq_false_iff_ne.mpr c21
  have c21b1 : (a0_1 != 0) = true := bne_iff_ne.mpr c21
  obtain rfl := Option.some.inj H
  obtain ⟨hcz39_0, hcz39_1, hcz39_2, hfz39_0, hfz39_1, hfz39_2⟩ := bcf3_ BK589.out
  go_wp2_with (first | ((with_reducible refine gate_callee (f := 117) rfl ?_); refine goesL_ (some 33) rfl rfl Try.func117 (by kernel_rfl) rfl #[.int .i64 a0_0] rfl ab1_ ?_; (with_reducible refine (spec_OpValid.calls a0_0 true _ A19.out).mono ?_); rintro e w' ⟨rfl, ⟨nd, rfl⟩⟩; refine ⟨_, rfl, ?_⟩))
  go_ret
  exact ⟨rr_, ab28_⟩
 replace c20 := Bool.eq_false_iff.mpr c20
 subst c20
 rw [if_neg (show ¬ (false = true) by decide)] at H
 obtain rfl := Option.some.inj H
 obtain ⟨hcz41_0, hcz41_1, hcz41_2, hfz41_0, hfz41_1, hfz41_2⟩ := bcf3_ BK589.out
 go_wp2_with (first | ((with_reducible refine gate_callee (f := 117) rfl ?_); refine goesL_ (some 33) rfl rfl Try.func117 (by kernel_rfl) rfl #[.int .i64 a0_0] rfl ab1_ ?_; (with_reducible refine (spec_OpValid.calls a0_0 false _ A19.out).mono ?_); rintro e w' ⟨rfl, ⟨nd, rfl⟩⟩; refine ⟨_, rfl, ?_⟩))
 go_ret
 exact ⟨rr_, ab28_⟩
theorem spec_ExprValid.mono : ∀ a0 a1 a2 k, LeO (spec_ExprValid.f k a0 a1 a2) (spec_ExprValid.f (k + 1) a0 a1 a2) := by
 intro a0 a1 a2 k
 unfold spec_ExprValid.f
 repeat' first
   | (with_reducible exact spec_l4Ok.mono _ _ _ _ _)
   | (with_reducible exact LeO.refl _)
   | (with_reducible exact LeO.none _)
   | (with_reducible refine LeO.ite ?_ ?_)
   | (with_reducible refine LeO.bind ?_ (fun _ => ?_))
theorem spec_ExprValid.calls (k : Nat) (a0_0 : Int) (a0_1 : Int) (A0_2 : Option Addr) (c0_2 : Nat) (l0_2 : List (S32)) (r : Bool) (w : World) (hr0_2 : Kd.C k32 w A0_2 l0_2.length l0_2) (hc0_2 : l0_2.length ≤ c0_2) (h : spec_ExprValid.f k a0_0 a0_1 l0_2 = some r) :
  Calls Try.prog 111 #[.agg #[.int .i64 a0_0, .int .i64 a0_1, .slice A0_2 l0_2.length c0_2]] w fun e w' => e = .returned (.bool r) ∧ Below w.heap.size w w' := by
 have hu32 := Try.underlying32
 have HR0_2 := am hr0_2
 have HC0_2 := am hc0_2
 clear hr0_2 hc0_2
 have HB := am (Below.refl w.heap.size w)
 have H : ((spec_l4Ok.f k a0_0 a0_1 l0_2 5).bind fun t598 => (some t598)) = some r := h
 clear h
 obtain ⟨t598, A20, H⟩ := bsm H
 (try dsimp only at H)
 have A2 := am A20
 clear A20
 obtain rfl := Option.some.inj H
 go_enter Try.func111, Try.ntmps111
 go_wp2_with (first | ((with_reducible refine gate_dst (N := 1) rfl ?_); refine box_event rfl (N := 1) rfl (cs := #[.int .i64 a0_0, .int .i64 a0_1, .slice A0_2 l0_2.length c0_2]) (t := 32) rn_ ?_; intro gb597 hg w3 hbox hb; have BK597 := am (hbox); have GW597 := am ((by rw [hg]; exact (below_size ab2_) : w.heap.size ≤ gb597)); have GE597 := am ((by rw [hg]; exact (below_size ab2_) : w.heap.size ≤ gb597)); replace HB := am (below_step ab2_ hb); clear hb hbox hg; obtain ⟨hcz4_0, hcz4_1, hcz4_2, hfz4_0, hfz4_1, hfz4_2⟩ := bcf3_ BK597.out) | ((with_reducible refine gate_callee (f := 116) rfl ?_); refine goesL_ (some 4) rfl rfl Try.func116 (by kernel_rfl) rfl #[.agg #[.int .i64 a0_0, .int .i64 a0_1, .slice A0_2 l0_2.length c0_2], .int .i64 5] rfl ab1_ ?_; (with_reducible refine (spec_l4Ok.calls k a0_0 a0_1 _ _ l0_2 5 t598 _ (aC_ (Kd.C_below HR0_2.out HB.out)) HC0_2.out A2.out).mono ?_); rintro e w5 ⟨rfl, hb⟩; refine ⟨_, rfl, ?_⟩; replace BK597 := am (bbl_ BK597.out hb); replace HB := am (below_step ab85_ hb); (try clear hb); (try clear hb2); (try clear hk); (try clear hi)))
 go_ret
 exact ⟨rr_, ab85_⟩
theorem spec_l11Var.calls (a0_0 : Int) (a0_1 : Int) (a0_2 : Int) (a0_3 : Int) (a0_4 : Int) (A0_5 : Option Addr) (c0_5 : Nat) (l0_5 : List (S32)) (A0_6 : Option Addr) (c0_6 : Nat) (l0_6 : List (S35)) (A0_7 : Option Addr) (c0_7 : Nat) (l0_7 : List (S35)) (a1 : Bool) (r : Bool) (w : World) (hr0_5 : Kd.C k32 w A0_5 l0_5.length l0_5) (hc0_5 : l0_5.length ≤ c0_5) (hr0_6 : Kd.C k35 w A0_6 l0_6.length l0_6) (hc0_6 : l0_6.length ≤ c0_6) (hr0_7 : Kd.C k35 w A0_7 l0_7.length l0_7) (hc0_7 : l0_7.length ≤ c0_7) (h : spec_l11Var.f a0_0 a0_1 a0_2 a0_3 a0_4 l0_5 l0_6 l0_7 a1 = some r) :
  Calls Try.prog 109 #[.agg #[.int .i64 a0_0, .int .i64 a0_1, .int .i64 a0_2, .int .i64 a0_3, .int .i64 a0_4, .slice A0_5 l0_5.length c0_5, .slice A0_6 l0_6.length c0_6, .slice A0_7 l0_7.length c0_7], .bool a1] w fun e w' => e = .returned (.bool r) ∧ Below w.heap.size w w' := by
 have hu35 := Try.underlying35
 have HR0_5 := am hr0_5
 have HC0_5 := am hc0_5
 clear hr0_5 hc0_5
 have HR0_6 := am hr0_6
 have HC0_6 := am hc0_6
 clear hr0_6 hc0_6
 have HR0_7 := am hr0_7
 have HC0_7 := am hc0_7
 clear hr0_7 hc0_7
 have HB := am (Below.refl w.heap.size w)
 have H : (if a1 = true then ((spec_l6In.f a0_1 0 3).bind fun t585 => (some t585)) else (some (a0_1 == 0))) = some r := h
 clear h
 have HH_ := am H
 clear H
 go_enter Try.func109, Try.ntmps109
 go_upto_region 1 with (first | ((with_reducible refine gate_dst (N := 2) rfl ?_); refine box_event rfl (N := 2) rfl (cs := #[.int .i64 a0_0, .int .i64 a0_1, .int .i64 a0_2, .int .i64 a0_3, .int .i64 a0_4, .slice A0_5 l0_5.length c0_5, .slice A0_6 l0_6.length c0_6, .slice A0_7 l0_7.length c0_7]) (t := 35) rn_ ?_; intro gb584 hg w5 hbox hb; have BK584 := am (hbox); have GW584 := am ((by rw [hg]; exact (below_size ab2_) : w.heap.size ≤ gb584)); have GE584 := am ((by rw [hg]; exact (below_size ab2_) : w.heap.size ≤ gb584)); replace HB := am (below_step ab2_ hb); clear hb hbox hg; obtain ⟨hcz6_0, hcz6_1, hcz6_2, hcz6_3, hcz6_4, hcz6_5, hcz6_6, hcz6_7, hfz6_0, hfz6_1, hfz6_2, hfz6_3, hfz6_4, hfz6_5, hfz6_6, hfz6_7⟩ := bcf8_ BK584.out))
 have H := HH_.out
 clear HH_
 by_cases c3 : a1 = true
 ·subst c3
  rw [if_pos rfl] at H
  obtain ⟨t585, A40, H⟩ := bsm H
  (try dsimp only at H)
  have A4 := am A40
  clear A40
  obtain rfl := Option.some.inj H
  go_wp2_with (first | ((with_reducible refine gate_callee (f := 88) rfl ?_); refine goesL_ (some 8) rfl rfl Try.func88 (by kernel_rfl) rfl #[.int .i64 a0_1, .int .i64 0, .int .i64 3] rfl ab1_ ?_; (with_reducible refine (spec_l6In.calls a0_1 0 3 t585 _ A4.out).mono ?_); rintro e w' ⟨rfl, ⟨nd, rfl⟩⟩; refine ⟨_, rfl, ?_⟩))
  go_ret
  exact ⟨rr_, ab83_⟩
 replace c3 := Bool.eq_false_iff.mpr c3
 subst c3
 rw [if_neg (show ¬ (false = true) by decide)] at H
 obtain rfl := Option.some.inj H
 go_wp2
 go_ret
 exact ⟨rr_, ab83_⟩
theorem spec_l11Box.calls (a0_0 : Int) (a0_1 : Int) (a0_2 : Int) (a0_3 : Int) (a0_4 : Int) (A0_5 : Option Addr) (c0_5 : Nat) (l0_5 : List (S32)) (A0_6 : Option Addr) (c0_6 : Nat) (l0_6 : List (S35)) (A0_7 : Option Addr) (c0_7 : Nat) (l0_7 : List (S35)) (a1 : Bool) (r : Bool) (w : World) (hr0_5 : Kd.C k32 w A0_5 l0_5.length l0_5) (hc0_5 : l0_5.length ≤ c0_5) (hr0_6 : Kd.C k35 w A0_6 l0_6.length l0_6) (hc0_6 : l0_6.length ≤ c0_6) (hr0_7 : Kd.C k35 w A0_7 l0_7.length l0_7) (hc0_7 : l0_7.length ≤ c0_7) (h : spec_l11Box.f a0_0 a0_1 a0_2 a0_3 a0_4 l0_5 l0_6 l0_7 a1 = some r) :
  Calls Try.prog 110 #[.agg #[.int .i64 a0_0, .int .i64 a0_1, .int .i64 a0_2, .int .i64 a0_3, .int .i64 a0_4, .slice A0_5 l0_5.length c0_5, .slice A0_6 l0_6.length c0_6, .slice A0_7 l0_7.length c0_7], .bool a1] w fun e w' => e = .returned (.bool r) ∧ Below w.heap.size w w' := by
 have hu35 := Try.underlying35
 have HR0_5 := am hr0_5
 have HC0_5 := am hc0_5
 clear hr0_5 hc0_5
 have HR0_6 := am hr0_6
 have HC0_6 := am hc0_6
 clear hr0_6 hc0_6
 have HR0_7 := am hr0_7
 have HC0_7 := am hc0_7
 clear hr0_7 hc0_7
 have HB := am (Below.refl w.heap.size w)
 have H : (if a1 = true then ((spec_l6In.f a0_2 0 2).bind fun t587 => (some t587)) else (some (a0_2 == 0))) = some r := h
 clear h
 have HH_ := am H
 clear H
 go_enter Try.func110, Try.ntmps110
 go_upto_region 1 with (first | ((with_reducible refine gate_dst (N := 2) rfl ?_); refine box_event rfl (N := 2) rfl (cs := #[.int .i64 a0_0, .int .i64 a0_1, .int .i64 a0_2, .int .i64 a0_3, .int .i64 a0_4, .slice A0_5 l0_5.length c0_5, .slice A0_6 l0_6.length c0_6, .slice A0_7 l0_7.length c0_7]) (t := 35) rn_ ?_; intro gb586 hg w5 hbox hb; have BK586 := am (hbox); have GW586 := am ((by rw [hg]; exact (below_size ab2_) : w.heap.size ≤ gb586)); have GE586 := am ((by rw [hg]; exact (below_size ab2_) : w.heap.size ≤ gb586)); replace HB := am (below_step ab2_ hb); clear hb hbox hg; obtain ⟨hcz6_0, hcz6_1, hcz6_2, hcz6_3, hcz6_4, hcz6_5, hcz6_6, hcz6_7, hfz6_0, hfz6_1, hfz6_2, hfz6_3, hfz6_4, hfz6_5, hfz6_6, hfz6_7⟩ := bcf8_ BK586.out))
 have H := HH_.out
 clear HH_
 by_cases c3 : a1 = true
 ·subst c3
  rw [if_pos rfl] at H
  obtain ⟨t587, A40, H⟩ := bsm H
  (try dsimp only at H)
  have A4 := am A40
  clear A40
  obtain rfl := Option.some.inj H
  go_wp2_with (first | ((with_reducible refine gate_callee (f := 88) rfl ?_); refine goesL_ (some 8) rfl rfl Try.func88 (by kernel_rfl) rfl #[.int .i64 a0_2, .int .i64 0, .int .i64 2] rfl ab1_ ?_; (with_reducible refine (spec_l6In.calls a0_2 0 2 t587 _ A4.out).mono ?_); rintro e w' ⟨rfl, ⟨nd, rfl⟩⟩; refine ⟨_, rfl, ?_⟩))
  go_ret
  exact ⟨rr_, ab84_⟩
 replace c3 := Bool.eq_false_iff.mpr c3
 subst c3
 rw [if_neg (show ¬ (false = true) by decide)] at H
 obtain rfl := Option.some.inj H
 go_wp2
 go_ret
 exact ⟨rr_, ab84_⟩
theorem spec_l11Plain.calls (a0_0 : Int) (a0_1 : Int) (A0_2 : Option Addr) (c0_2 : Nat) (l0_2 : List (S32)) (r : Bool) (w : World) (hr0_2 : Kd.C k32 w A0_2 l0_2.length l0_2) (hc0_2 : l0_2.length ≤ c0_2) (h : spec_l11Plain.f a0_0 a0_1 l0_2 = some r) :
  Calls Try.prog 115 #[.agg #[.int .i64 a0_0, .int .i64 a0_1, .slice A0_2 l0_2.length c0_2]] w fun e w' => e = .returned (.bool r) ∧ Below w.heap.size w w' := by
 have hu32 := Try.underlying32
 have HR0_2 := am hr0_2
 have HC0_2 := am hc0_2
 clear hr0_2 hc0_2
 have HB := am (Below.refl w.heap.size w)
 have H : (if a0_0 = 0 then (if a0_1 = 0 then (some ((l0_2.length : Int) == 0)) else (some false)) else (some false)) = some r := h
 clear h
 have HH_ := am H
 clear H
 go_enter Try.func115, Try.ntmps115
 go_upto_region 1 with (first | ((with_reducible refine gate_dst (N := 1) rfl ?_); (try (refine gate_guard (by rfl) ?_; dsimp only)); refine box_event rfl (N := 1) rfl (cs := #[.int .i64 a0_0, .int .i64 a0_1, .slice A0_2 l0_2.length c0_2]) (t := 32) rn_ ?_; intro gb599 hg w4 hbox hb; have BK599 := am (hbox); have GW599 := am ((by rw [hg]; exact (below_size ab2_) : w.heap.size ≤ gb599)); have GE599 := am ((by rw [hg]; exact (below_size ab2_) : w.heap.size ≤ gb599)); replace HB := am (below_step ab2_ hb); clear hb hbox hg; obtain ⟨hcz5_0, hcz5_1, hcz5_2, hfz5_0, hfz5_1, hfz5_2⟩ := bcf3_ BK599.out))
 have H := HH_.out
 clear HH_
 by_cases c2 : a0_0 = 0
 ·rw [if_pos c2] at H
  have c2b0 : (a0_0 == 0) = true := beq_iff_eq.mpr c2
  have c2b1 : (a0_0 != 0) = false := bne_eq_false_iff_eq.mpr c2
  clear c2
  by_cases c3 : a0_1 = 0
  ·rw [if_pos c3] at H
   have c3b0 : (a0_1 == 0) = true := beq_iff_eq.mpr c3
   have c3b1 : (a0_1 != 0) = false := bne_eq_false_iff_eq.mpr c3
   clear c3
   obtain rfl := Option.some.inj H
   go_wp2
   go_ret
   exact ⟨rr_, ab73_⟩
  rw [if_neg c3] at H
  have c3b0 : (a0_1 == 0) = false := beq_eq_false_iff_ne.mpr c3
  have c3b1 : (a0_1 != 0) = true := bne_iff_ne.mpr c3
  obtain rfl := Option.some.inj H
  go_wp2
  go_ret
  exact ⟨rr_, ab73_⟩
 rw [if_neg c2] at H
 have c2b0 : (a0_0 == 0) = false := beq_eq_false_iff_ne.mpr c2
 have c2b1 : (a0_0 != 0) = true := bne_iff_ne.mpr c2
 obtain rfl := Option.some.inj H
 go_wp2
 go_ret
 exact ⟨rr_, ab73_⟩
end Go.Proofs.Ytodhbeeibagiaaa.PA


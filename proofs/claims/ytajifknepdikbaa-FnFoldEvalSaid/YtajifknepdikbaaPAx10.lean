-- made by a program of this session (wip/myprint.py over the kit's print)
import Derived.Test.YtajifknepdikbaaV
import Derived.Test.YtajifknepdikbaaPAx0
import Derived.Test.YtajifknepdikbaaPAx1
import Derived.Test.YtajifknepdikbaaPAx6
import Derived.Test.YtajifknepdikbaaPAx8
import Derived.Test.YtajifknepdikbaaPAx9
namespace Go.Proofs.Ytajifknepdikbaa.PA
open Go.RowKit Go.Proofs.YtajifknepdikbaaW.PrintWords Go.Proofs.YtajifknepdikbaaW.PrintLast Go.Proofs.YtajifknepdikbaaW.PrintMore
attribute [local go_sem] max2_int min2_int max_two min_two max_three min_three max_four min_four   -- for this text's walks alone
set_option linter.unusedVariables false
set_option linter.unusedSimpArgs false

/-! ### spec_Apply: function 69 -/
theorem spec_Apply.mono_l : ∀ k, (∀ y0 y1 y2 y3, LeO (spec_Apply.j0 k y0 y1 y2 y3) (spec_Apply.j0 (k + 1) y0 y1 y2 y3))
  | 0 => fun _ _ _ _ r h => by simp [spec_Apply.j0] at h
  | k + 1 => by
    have ih0 := spec_Apply.mono_l k
    · intro y0 y1 y2 y3
      unfold spec_Apply.j0
      repeat' first
      | (with_reducible exact ih0 _ _ _ _)
      | (with_reducible exact LeO.refl _)
      | (with_reducible exact LeO.none _)
      | (with_reducible refine LeO.ite ?_ ?_)
      | (with_reducible refine LeO.bind ?_ (fun _ => ?_))
      | exact ih0 _ _ _ _
      | exact LeO.none _
      | refine LeO.ite ?_ ?_
      | refine LeO.bind ?_ (fun _ => ?_)
theorem spec_Apply.mono : ∀ a0 a1 a2 k, LeO (spec_Apply.f k a0 a1 a2) (spec_Apply.f (k + 1) a0 a1 a2) := by
  intro a0 a1 a2 k
  have ih0 := spec_Apply.mono_l k
  unfold spec_Apply.f
  repeat' first
      | (with_reducible exact ih0 _ _ _ _)
      | (with_reducible exact LeO.refl _)
      | (with_reducible exact LeO.none _)
      | (with_reducible refine LeO.ite ?_ ?_)
      | (with_reducible refine LeO.bind ?_ (fun _ => ?_))
      | exact ih0 _ _ _ _
      | exact LeO.none _
      | refine LeO.ite ?_ ?_
      | refine LeO.bind ?_ (fun _ => ?_)
set_option maxHeartbeats 8000000 in
set_option maxRecDepth 100000 in
theorem spec_Apply.calls (k : Nat) (a0 : Int) (a1 : Int) (a2 : Int) (r1 : Int) (r2 : Bool) (w : World) (h : spec_Apply.f k a0 a1 a2 = some (r1, r2)) :
    Calls Try.prog 69 #[.int .i64 a0, .int .i64 a1, .int .i64 a2] w fun e w' => e = .returned (.tuple #[.int .i64 r1, .bool r2]) ∧ Drawn0 w w' := by
  have H : ((spec_OpValid.f a0).bind fun t140 => (if t140 = true then ((spec_WordValid.f a1).bind fun t141 => (if t141 = true then ((spec_WordValid.f a2).bind fun t142 => (spec_Apply.j0 k a0 a1 a2 (!t142))) else (spec_Apply.j0 k a0 a1 a2 true))) else (spec_Apply.j0 k a0 a1 a2 true))) = some (r1, r2) := h
  clear h
  have HC4 := Aside0.mk H
  clear H
  go_enter Try.func69, Try.ntmps69
  go_upto_region 1 with (fail)
  go_cut [20] (fun v20 wc => ∃ (kq : Nat) (x20_3 : Bool), v20 = .bool x20_3 ∧ Aside0 (spec_Apply.j0 kq a0 a1 a2 x20_3 = some (r1, r2)) ∧ Aside0 (kq ≤ k) ∧ Drawn0 w wc)
  case first =>
    have H := HC4.out
    clear HC4
    replace H := Option.bind_eq_some_iff.mp H
    obtain ⟨t140, A50, H⟩ := H
    replace H : (if t140 = true then ((spec_WordValid.f a1).bind fun t141 => (if t141 = true then ((spec_WordValid.f a2).bind fun t142 => (spec_Apply.j0 k a0 a1 a2 (!t142))) else (spec_Apply.j0 k a0 a1 a2 true))) else (spec_Apply.j0 k a0 a1 a2 true)) = some (r1, r2) := H
    have A5 := Aside0.mk A50
    clear A50
    by_cases c6 : t140 = true
    · subst c6
      have H1 : ((spec_WordValid.f a1).bind fun t141 => (if t141 = true then ((spec_WordValid.f a2).bind fun t142 => (spec_Apply.j0 k a0 a1 a2 (!t142))) else (spec_Apply.j0 k a0 a1 a2 true))) = some (r1, r2) := by rw [if_pos rfl] at H; exact H
      clear H
      have H := H1
      clear H1
      replace H := Option.bind_eq_some_iff.mp H
      obtain ⟨t141, A70, H⟩ := H
      replace H : (if t141 = true then ((spec_WordValid.f a2).bind fun t142 => (spec_Apply.j0 k a0 a1 a2 (!t142))) else (spec_Apply.j0 k a0 a1 a2 true)) = some (r1, r2) := H
      have A7 := Aside0.mk A70
      clear A70
      by_cases c8 : t141 = true
      · subst c8
        have H1 : ((spec_WordValid.f a2).bind fun t142 => (spec_Apply.j0 k a0 a1 a2 (!t142))) = some (r1, r2) := by rw [if_pos rfl] at H; exact H
        clear H
        have H := H1
        clear H1
        replace H := Option.bind_eq_some_iff.mp H
        obtain ⟨t142, A90, H⟩ := H
        replace H : (spec_Apply.j0 k a0 a1 a2 (!t142)) = some (r1, r2) := H
        have A9 := Aside0.mk A90
        clear A90
        have H' := Aside0.mk H
        clear H
        go_wp2_with (first | ((with_reducible refine gate_callee (f := 67) rfl ?_); refine goesL_ (some 9) rfl rfl Try.func67 (by kernel_rfl) rfl #[.int .i64 a0] rfl ab1_ ?_; (with_reducible refine (spec_OpValid.calls a0 true _ A5.out).mono ?_); rintro e w' ⟨rfl, ⟨nd, rfl⟩⟩; refine ⟨_, rfl, ?_⟩) | (go_at_call 68; (with_reducible refine (spec_WordValid.calls a1 true _ A7.out).mono ?_); rintro e w' ⟨rfl, ⟨nd, rfl⟩⟩) | (go_at_call 68; (with_reducible refine (spec_WordValid.calls a2 t142 _ A9.out).mono ?_); rintro e w' ⟨rfl, ⟨nd, rfl⟩⟩))
        go_meet
        case rel => exact ⟨_, (!t142), (by first | rfl | (simp; done) | (simp [*]; done)), H', ⟨by first | omega | exact Nat.le_refl _⟩, ab17_⟩
      · replace c8 := Bool.eq_false_iff.mpr c8
        subst c8
        have H1 : (spec_Apply.j0 k a0 a1 a2 true) = some (r1, r2) := by rw [if_neg (show ¬ (false = true) by decide)] at H; exact H
        clear H
        have H := H1
        clear H1
        have H' := Aside0.mk H
        clear H
        go_wp2_with (first | ((with_reducible refine gate_callee (f := 67) rfl ?_); refine goesL_ (some 9) rfl rfl Try.func67 (by kernel_rfl) rfl #[.int .i64 a0] rfl ab1_ ?_; (with_reducible refine (spec_OpValid.calls a0 true _ A5.out).mono ?_); rintro e w' ⟨rfl, ⟨nd, rfl⟩⟩; refine ⟨_, rfl, ?_⟩) | (go_at_call 68; (with_reducible refine (spec_WordValid.calls a1 false _ A7.out).mono ?_); rintro e w' ⟨rfl, ⟨nd, rfl⟩⟩))
        go_meet
        case rel => exact ⟨_, (true), (by first | rfl | (simp; done) | (simp [*]; done)), H', ⟨by first | omega | exact Nat.le_refl _⟩, ab17_⟩
    · replace c6 := Bool.eq_false_iff.mpr c6
      subst c6
      have H1 : (spec_Apply.j0 k a0 a1 a2 true) = some (r1, r2) := by rw [if_neg (show ¬ (false = true) by decide)] at H; exact H
      clear H
      have H := H1
      clear H1
      have H' := Aside0.mk H
      clear H
      go_wp2_with (first | ((with_reducible refine gate_callee (f := 67) rfl ?_); refine goesL_ (some 9) rfl rfl Try.func67 (by kernel_rfl) rfl #[.int .i64 a0] rfl ab1_ ?_; (with_reducible refine (spec_OpValid.calls a0 false _ A5.out).mono ?_); rintro e w' ⟨rfl, ⟨nd, rfl⟩⟩; refine ⟨_, rfl, ?_⟩))
      go_meet
      case rel => exact ⟨_, (true), (by first | rfl | (simp; done) | (simp [*]; done)), H', ⟨by first | omega | exact Nat.le_refl _⟩, ab17_⟩
  case rest =>
    clear HC4
    try clear p2
    try clear c6
    try clear c8
    obtain ⟨kq, x20_3, rfl, HA, HJ3, ⟨mc3, rfl⟩⟩ := hcut
    cases kq with
    | zero => exact absurd HA.out (by simp [spec_Apply.j0])
    | succ kj3 =>
      have H := HA.out
      clear HA
      simp only [spec_Apply.j0] at H
      by_cases c10 : x20_3 = true
      · subst c10
        have H1 : (some (0, false)) = some (r1, r2) := by rw [if_pos rfl] at H; exact H
        clear H
        have H := H1
        clear H1
        simp only [Option.some.injEq, Prod.mk.injEq] at H
        obtain ⟨rfl, rfl⟩ := H
        go_wp2
        go_ret2
        exact ⟨by first | rfl | (simp; done) | (simp [*]; done), ab17_⟩
      · replace c10 := Bool.eq_false_iff.mpr c10
        subst c10
        have H1 : (if a0 = 1 then (some (Go.bits .or .i64 a1 a2, true)) else (if a0 = 2 then (some (Go.bits .xor .i64 a1 a2, true)) else (if a0 = 3 then (some (Go.bits .and .i64 a1 a2, true)) else (if a0 = 4 then ((spec_l2Flag.f (a1 == a2)).bind fun t143 => (some (t143, true))) else (if a0 = 5 then ((spec_l2Flag.f (decide (a1 < a2))).bind fun t144 => (some (t144, true))) else (if a0 = 6 then ((spec_l2Shift.f a1 a2 false).bind fun t145 => (some (t145, true))) else (if a0 = 7 then ((spec_l2Shift.f a1 a2 true).bind fun t146 => (some (t146, true))) else (if a0 = 8 then ((spec_Wrap.f (wrap64 (a1 + a2))).bind fun t147 => (some (t147, true))) else (if a0 = 9 then ((spec_Wrap.f (wrap64 (a1 - a2))).bind fun t148 => (some (t148, true))) else (if a0 = 10 then ((spec_Wrap.f (wrap64 (a1 * a2))).bind fun t149 => (some (t149, true))) else (if a0 = 11 then ((spec_l2Divide.f a1 a2).bind fun t150 => (some (t150, true))) else ((spec_l2Remain.f a1 a2).bind fun t151 => (some (t151, true)))))))))))))) = some (r1, r2) := by rw [if_neg (show ¬ (false = true) by decide)] at H; exact H
        clear H
        have H := H1
        clear H1
        by_cases c11 : a0 = 1
        · rw [if_pos c11] at H
          have c11b0 : (a0 == 1) = true := beq_iff_eq.mpr c11
          have c11b1 : (a0 != 1) = false := bne_eq_false_iff_eq.mpr c11
          clear c11
          simp only [Option.some.injEq, Prod.mk.injEq] at H
          obtain ⟨rfl, rfl⟩ := H
          go_wp2
          go_ret2
          exact ⟨by first | rfl | (simp; done) | (simp [*]; done), ab17_⟩
        · rw [if_neg c11] at H
          have c11b0 : (a0 == 1) = false := beq_eq_false_iff_ne.mpr c11
          have c11b1 : (a0 != 1) = true := bne_iff_ne.mpr c11
          by_cases c12 : a0 = 2
          · rw [if_pos c12] at H
            have c12b0 : (a0 == 2) = true := beq_iff_eq.mpr c12
            have c12b1 : (a0 != 2) = false := bne_eq_false_iff_eq.mpr c12
            clear c12
            simp only [Option.some.injEq, Prod.mk.injEq] at H
            obtain ⟨rfl, rfl⟩ := H
            go_wp2
            go_ret2
            exact ⟨by first | rfl | (simp; done) | (simp [*]; done), ab17_⟩
          · rw [if_neg c12] at H
            have c12b0 : (a0 == 2) = false := beq_eq_false_iff_ne.mpr c12
            have c12b1 : (a0 != 2) = true := bne_iff_ne.mpr c12
            by_cases c13 : a0 = 3
            · rw [if_pos c13] at H
              have c13b0 : (a0 == 3) = true := beq_iff_eq.mpr c13
              have c13b1 : (a0 != 3) = false := bne_eq_false_iff_eq.mpr c13
              clear c13
              simp only [Option.some.injEq, Prod.mk.injEq] at H
              obtain ⟨rfl, rfl⟩ := H
              go_wp2
              go_ret2
              exact ⟨by first | rfl | (simp; done) | (simp [*]; done), ab17_⟩
            · rw [if_neg c13] at H
              have c13b0 : (a0 == 3) = false := beq_eq_false_iff_ne.mpr c13
              have c13b1 : (a0 != 3) = true := bne_iff_ne.mpr c13
              by_cases c14 : a0 = 4
              · rw [if_pos c14] at H
                have c14b0 : (a0 == 4) = true := beq_iff_eq.mpr c14
                have c14b1 : (a0 != 4) = false := bne_eq_false_iff_eq.mpr c14
                clear c14
                replace H := Option.bind_eq_some_iff.mp H
                obtain ⟨t143, A150, H⟩ := H
                replace H : (some (t143, true)) = some (r1, r2) := H
                have A15 := Aside0.mk A150
                clear A150
                simp only [Option.some.injEq, Prod.mk.injEq] at H
                obtain ⟨rfl, rfl⟩ := H
                go_wp2_with (first | ((with_reducible refine gate_callee (f := 72) rfl ?_); refine goesL_ (some 42) rfl rfl Try.func72 (by kernel_rfl) rfl #[.bool (a1 == a2)] rfl ab1_ ?_; (with_reducible refine (spec_l2Flag.calls (a1 == a2) t143 _ A15.out).mono ?_); rintro e w' ⟨rfl, ⟨nd, rfl⟩⟩; refine ⟨_, rfl, ?_⟩))
                go_ret2
                exact ⟨by first | rfl | (simp; done) | (simp [*]; done), ab17_⟩
              · rw [if_neg c14] at H
                have c14b0 : (a0 == 4) = false := beq_eq_false_iff_ne.mpr c14
                have c14b1 : (a0 != 4) = true := bne_iff_ne.mpr c14
                by_cases c16 : a0 = 5
                · rw [if_pos c16] at H
                  have c16b0 : (a0 == 5) = true := beq_iff_eq.mpr c16
                  have c16b1 : (a0 != 5) = false := bne_eq_false_iff_eq.mpr c16
                  clear c16
                  replace H := Option.bind_eq_some_iff.mp H
                  obtain ⟨t144, A170, H⟩ := H
                  replace H : (some (t144, true)) = some (r1, r2) := H
                  have A17 := Aside0.mk A170
                  clear A170
                  simp only [Option.some.injEq, Prod.mk.injEq] at H
                  obtain ⟨rfl, rfl⟩ := H
                  go_wp2_with (first | ((with_reducible refine gate_callee (f := 72) rfl ?_); refine goesL_ (some 48) rfl rfl Try.func72 (by kernel_rfl) rfl #[.bool (decide (a1 < a2))] rfl ab1_ ?_; (with_reducible refine (spec_l2Flag.calls (decide (a1 < a2)) t144 _ A17.out).mono ?_); rintro e w' ⟨rfl, ⟨nd, rfl⟩⟩; refine ⟨_, rfl, ?_⟩))
                  go_ret2
                  exact ⟨by first | rfl | (simp; done) | (simp [*]; done), ab17_⟩
                · rw [if_neg c16] at H
                  have c16b0 : (a0 == 5) = false := beq_eq_false_iff_ne.mpr c16
                  have c16b1 : (a0 != 5) = true := bne_iff_ne.mpr c16
                  by_cases c18 : a0 = 6
                  · rw [if_pos c18] at H
                    have c18b0 : (a0 == 6) = true := beq_iff_eq.mpr c18
                    have c18b1 : (a0 != 6) = false := bne_eq_false_iff_eq.mpr c18
                    clear c18
                    replace H := Option.bind_eq_some_iff.mp H
                    obtain ⟨t145, A190, H⟩ := H
                    replace H : (some (t145, true)) = some (r1, r2) := H
                    have A19 := Aside0.mk A190
                    clear A190
                    simp only [Option.some.injEq, Prod.mk.injEq] at H
                    obtain ⟨rfl, rfl⟩ := H
                    go_wp2_with (first | ((with_reducible refine gate_callee (f := 73) rfl ?_); refine goesL_ (some 53) rfl rfl Try.func73 (by kernel_rfl) rfl #[.int .i64 a1, .int .i64 a2, .bool false] rfl ab1_ ?_; (with_reducible refine (spec_l2Shift.calls a1 a2 false t145 _ A19.out).mono ?_); rintro e w' ⟨rfl, ⟨nd, rfl⟩⟩; refine ⟨_, rfl, ?_⟩))
                    go_ret2
                    exact ⟨by first | rfl | (simp; done) | (simp [*]; done), ab17_⟩
                  · rw [if_neg c18] at H
                    have c18b0 : (a0 == 6) = false := beq_eq_false_iff_ne.mpr c18
                    have c18b1 : (a0 != 6) = true := bne_iff_ne.mpr c18
                    by_cases c20 : a0 = 7
                    · rw [if_pos c20] at H
                      have c20b0 : (a0 == 7) = true := beq_iff_eq.mpr c20
                      have c20b1 : (a0 != 7) = false := bne_eq_false_iff_eq.mpr c20
                      clear c20
                      replace H := Option.bind_eq_some_iff.mp H
                      obtain ⟨t146, A210, H⟩ := H
                      replace H : (some (t146, true)) = some (r1, r2) := H
                      have A21 := Aside0.mk A210
                      clear A210
                      simp only [Option.some.injEq, Prod.mk.injEq] at H
                      obtain ⟨rfl, rfl⟩ := H
                      go_wp2_with (first | ((with_reducible refine gate_callee (f := 73) rfl ?_); refine goesL_ (some 58) rfl rfl Try.func73 (by kernel_rfl) rfl #[.int .i64 a1, .int .i64 a2, .bool true] rfl ab1_ ?_; (with_reducible refine (spec_l2Shift.calls a1 a2 true t146 _ A21.out).mono ?_); rintro e w' ⟨rfl, ⟨nd, rfl⟩⟩; refine ⟨_, rfl, ?_⟩))
                      go_ret2
                      exact ⟨by first | rfl | (simp; done) | (simp [*]; done), ab17_⟩
                    · rw [if_neg c20] at H
                      have c20b0 : (a0 == 7) = false := beq_eq_false_iff_ne.mpr c20
                      have c20b1 : (a0 != 7) = true := bne_iff_ne.mpr c20
                      by_cases c22 : a0 = 8
                      · rw [if_pos c22] at H
                        have c22b0 : (a0 == 8) = true := beq_iff_eq.mpr c22
                        have c22b1 : (a0 != 8) = false := bne_eq_false_iff_eq.mpr c22
                        clear c22
                        replace H := Option.bind_eq_some_iff.mp H
                        obtain ⟨t147, A230, H⟩ := H
                        replace H : (some (t147, true)) = some (r1, r2) := H
                        have A23 := Aside0.mk A230
                        clear A230
                        simp only [Option.some.injEq, Prod.mk.injEq] at H
                        obtain ⟨rfl, rfl⟩ := H
                        go_wp2_with (first | ((with_reducible refine gate_callee (f := 74) rfl ?_); refine goesL_ (some 64) rfl rfl Try.func74 (by kernel_rfl) rfl #[.int .i64 (wrap64 (a1 + a2))] rfl ab1_ ?_; (with_reducible refine (spec_Wrap.calls (wrap64 (a1 + a2)) t147 _ A23.out).mono ?_); rintro e w' ⟨rfl, ⟨nd, rfl⟩⟩; refine ⟨_, rfl, ?_⟩))
                        go_ret2
                        exact ⟨by first | rfl | (simp; done) | (simp [*]; done), ab17_⟩
                      · rw [if_neg c22] at H
                        have c22b0 : (a0 == 8) = false := beq_eq_false_iff_ne.mpr c22
                        have c22b1 : (a0 != 8) = true := bne_iff_ne.mpr c22
                        by_cases c24 : a0 = 9
                        · rw [if_pos c24] at H
                          have c24b0 : (a0 == 9) = true := beq_iff_eq.mpr c24
                          have c24b1 : (a0 != 9) = false := bne_eq_false_iff_eq.mpr c24
                          clear c24
                          replace H := Option.bind_eq_some_iff.mp H
                          obtain ⟨t148, A250, H⟩ := H
                          replace H : (some (t148, true)) = some (r1, r2) := H
                          have A25 := Aside0.mk A250
                          clear A250
                          simp only [Option.some.injEq, Prod.mk.injEq] at H
                          obtain ⟨rfl, rfl⟩ := H
                          go_wp2_with (first | ((with_reducible refine gate_callee (f := 74) rfl ?_); refine goesL_ (some 70) rfl rfl Try.func74 (by kernel_rfl) rfl #[.int .i64 (wrap64 (a1 - a2))] rfl ab1_ ?_; (with_reducible refine (spec_Wrap.calls (wrap64 (a1 - a2)) t148 _ A25.out).mono ?_); rintro e w' ⟨rfl, ⟨nd, rfl⟩⟩; refine ⟨_, rfl, ?_⟩))
                          go_ret2
                          exact ⟨by first | rfl | (simp; done) | (simp [*]; done), ab17_⟩
                        · rw [if_neg c24] at H
                          have c24b0 : (a0 == 9) = false := beq_eq_false_iff_ne.mpr c24
                          have c24b1 : (a0 != 9) = true := bne_iff_ne.mpr c24
                          by_cases c26 : a0 = 10
                          · rw [if_pos c26] at H
                            have c26b0 : (a0 == 10) = true := beq_iff_eq.mpr c26
                            have c26b1 : (a0 != 10) = false := bne_eq_false_iff_eq.mpr c26
                            clear c26
                            replace H := Option.bind_eq_some_iff.mp H
                            obtain ⟨t149, A270, H⟩ := H
                            replace H : (some (t149, true)) = some (r1, r2) := H
                            have A27 := Aside0.mk A270
                            clear A270
                            simp only [Option.some.injEq, Prod.mk.injEq] at H
                            obtain ⟨rfl, rfl⟩ := H
                            go_wp2_with (first | ((with_reducible refine gate_callee (f := 74) rfl ?_); refine goesL_ (some 76) rfl rfl Try.func74 (by kernel_rfl) rfl #[.int .i64 (wrap64 (a1 * a2))] rfl ab1_ ?_; (with_reducible refine (spec_Wrap.calls (wrap64 (a1 * a2)) t149 _ A27.out).mono ?_); rintro e w' ⟨rfl, ⟨nd, rfl⟩⟩; refine ⟨_, rfl, ?_⟩))
                            go_ret2
                            exact ⟨by first | rfl | (simp; done) | (simp [*]; done), ab17_⟩
                          · rw [if_neg c26] at H
                            have c26b0 : (a0 == 10) = false := beq_eq_false_iff_ne.mpr c26
                            have c26b1 : (a0 != 10) = true := bne_iff_ne.mpr c26
                            by_cases c28 : a0 = 11
                            · rw [if_pos c28] at H
                              have c28b0 : (a0 == 11) = true := beq_iff_eq.mpr c28
                              have c28b1 : (a0 != 11) = false := bne_eq_false_iff_eq.mpr c28
                              clear c28
                              replace H := Option.bind_eq_some_iff.mp H
                              obtain ⟨t150, A290, H⟩ := H
                              replace H : (some (t150, true)) = some (r1, r2) := H
                              have A29 := Aside0.mk A290
                              clear A290
                              simp only [Option.some.injEq, Prod.mk.injEq] at H
                              obtain ⟨rfl, rfl⟩ := H
                              go_wp2_with (first | ((with_reducible refine gate_callee (f := 75) rfl ?_); refine goesL_ (some 81) rfl rfl Try.func75 (by kernel_rfl) rfl #[.int .i64 a1, .int .i64 a2] rfl ab1_ ?_; (with_reducible refine (spec_l2Divide.calls a1 a2 t150 _ A29.out).mono ?_); rintro e w' ⟨rfl, ⟨nd, rfl⟩⟩; refine ⟨_, rfl, ?_⟩))
                              go_ret2
                              exact ⟨by first | rfl | (simp; done) | (simp [*]; done), ab17_⟩
                            · rw [if_neg c28] at H
                              have c28b0 : (a0 == 11) = false := beq_eq_false_iff_ne.mpr c28
                              have c28b1 : (a0 != 11) = true := bne_iff_ne.mpr c28
                              replace H := Option.bind_eq_some_iff.mp H
                              obtain ⟨t151, A300, H⟩ := H
                              replace H : (some (t151, true)) = some (r1, r2) := H
                              have A30 := Aside0.mk A300
                              clear A300
                              simp only [Option.some.injEq, Prod.mk.injEq] at H
                              obtain ⟨rfl, rfl⟩ := H
                              go_wp2_with (first | ((with_reducible refine gate_callee (f := 76) rfl ?_); refine goesL_ (some 84) rfl rfl Try.func76 (by kernel_rfl) rfl #[.int .i64 a1, .int .i64 a2] rfl ab1_ ?_; (with_reducible refine (spec_l2Remain.calls a1 a2 t151 _ A30.out).mono ?_); rintro e w' ⟨rfl, ⟨nd, rfl⟩⟩; refine ⟨_, rfl, ?_⟩))
                              go_ret2
                              exact ⟨by first | rfl | (simp; done) | (simp [*]; done), ab17_⟩

end Go.Proofs.Ytajifknepdikbaa.PA

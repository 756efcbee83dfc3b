-- made by a program of this session (wip/myprint.py over the kit's print)
import Derived.Test.YtajifknepdikbaaV
import Derived.Test.YtajifknepdikbaaPAx0
import Derived.Test.YtajifknepdikbaaPAx1
import Derived.Test.YtajifknepdikbaaPAx12
namespace Go.Proofs.Ytajifknepdikbaa.PA
open Go.RowKit Go.Proofs.YtajifknepdikbaaW.PrintWords Go.Proofs.YtajifknepdikbaaW.PrintLast Go.Proofs.YtajifknepdikbaaW.PrintMore
attribute [local go_sem] max2_int min2_int max_two min_two max_three min_three max_four min_four   -- for this text's walks alone
set_option linter.unusedVariables false
set_option linter.unusedSimpArgs false

/-! ### impl_apply: function 65 -/
set_option maxHeartbeats 8000000 in
set_option maxRecDepth 100000 in
theorem impl_apply.calls (a0 : Int) (a1 : Int) (a2 : Int) (r : Int) (w : World) (h : impl_apply.f a0 a1 a2 = some r) :
    Calls Try.prog 65 #[.int .i64 a0, .int .i64 a1, .int .i64 a2] w fun e w' => e = .returned (.int .i64 r) ∧ Drawn0 w w' := by
  have H : (if a0 = 1 then (some (Go.bits .or .i64 a1 a2)) else (if a0 = 2 then (some (Go.bits .xor .i64 a1 a2)) else (if a0 = 3 then (some (Go.bits .and .i64 a1 a2)) else (if a0 = 4 then ((impl_truth.f (a1 == a2)).bind fun t199 => (some t199)) else (if a0 = 5 then ((impl_truth.f (decide (a1 < a2))).bind fun t200 => (some t200)) else (if a0 = 6 then (if 0 ≤ (Go.bits .and .i64 a2 31) then ((impl_Wrap.f (shl .i64 a1 (Go.bits .and .i64 a2 31))).bind fun t201 => (some t201)) else (none)) else (if a0 = 7 then (if 0 ≤ (Go.bits .and .i64 a2 31) then (some (shr .i64 a1 (Go.bits .and .i64 a2 31))) else (none)) else (if a0 = 8 then ((impl_Wrap.f (wrap64 (a1 + a2))).bind fun t202 => (some t202)) else (if a0 = 9 then ((impl_Wrap.f (wrap64 (a1 - a2))).bind fun t203 => (some t203)) else (if a0 = 10 then ((impl_Wrap.f (wrap64 (a1 * a2))).bind fun t204 => (some t204)) else (if a0 = 11 then (if a2 = 0 then (some (-1)) else ((impl_Wrap.f (wrap64 (Int.tdiv a1 a2))).bind fun t205 => (some t205))) else (if a2 = 0 then (some a1) else (some (Int.tmod a1 a2)))))))))))))) = some r := h
  clear h
  by_cases c4 : a0 = 1
  · rw [if_pos c4] at H
    have c4b0 : (a0 == 1) = true := beq_iff_eq.mpr c4
    have c4b1 : (a0 != 1) = false := bne_eq_false_iff_eq.mpr c4
    clear c4
    obtain rfl := Option.some.inj H
    go_enter Try.func65, Try.ntmps65
    go_wp2
    go_ret
    exact ⟨by first | rfl | (simp; done) | (simp [*]; done), ab17_⟩
  · rw [if_neg c4] at H
    have c4b0 : (a0 == 1) = false := beq_eq_false_iff_ne.mpr c4
    have c4b1 : (a0 != 1) = true := bne_iff_ne.mpr c4
    by_cases c5 : a0 = 2
    · rw [if_pos c5] at H
      have c5b0 : (a0 == 2) = true := beq_iff_eq.mpr c5
      have c5b1 : (a0 != 2) = false := bne_eq_false_iff_eq.mpr c5
      clear c5
      obtain rfl := Option.some.inj H
      go_enter Try.func65, Try.ntmps65
      go_wp2
      go_ret
      exact ⟨by first | rfl | (simp; done) | (simp [*]; done), ab17_⟩
    · rw [if_neg c5] at H
      have c5b0 : (a0 == 2) = false := beq_eq_false_iff_ne.mpr c5
      have c5b1 : (a0 != 2) = true := bne_iff_ne.mpr c5
      by_cases c6 : a0 = 3
      · rw [if_pos c6] at H
        have c6b0 : (a0 == 3) = true := beq_iff_eq.mpr c6
        have c6b1 : (a0 != 3) = false := bne_eq_false_iff_eq.mpr c6
        clear c6
        obtain rfl := Option.some.inj H
        go_enter Try.func65, Try.ntmps65
        go_wp2
        go_ret
        exact ⟨by first | rfl | (simp; done) | (simp [*]; done), ab17_⟩
      · rw [if_neg c6] at H
        have c6b0 : (a0 == 3) = false := beq_eq_false_iff_ne.mpr c6
        have c6b1 : (a0 != 3) = true := bne_iff_ne.mpr c6
        by_cases c7 : a0 = 4
        · rw [if_pos c7] at H
          have c7b0 : (a0 == 4) = true := beq_iff_eq.mpr c7
          have c7b1 : (a0 != 4) = false := bne_eq_false_iff_eq.mpr c7
          clear c7
          replace H := Option.bind_eq_some_iff.mp H
          obtain ⟨t199, A80, H⟩ := H
          replace H : (some t199) = some r := H
          have A8 := Aside0.mk A80
          clear A80
          obtain rfl := Option.some.inj H
          go_enter Try.func65, Try.ntmps65
          go_wp2_with (first | ((with_reducible refine gate_callee (f := 71) rfl ?_); refine goesL_ (some 28) rfl rfl Try.func71 (by kernel_rfl) rfl #[.bool (a1 == a2)] rfl ab1_ ?_; (with_reducible refine (impl_truth.calls (a1 == a2) t199 _ A8.out).mono ?_); rintro e w' ⟨rfl, ⟨nd, rfl⟩⟩; refine ⟨_, rfl, ?_⟩))
          go_ret
          exact ⟨by first | rfl | (simp; done) | (simp [*]; done), ab17_⟩
        · rw [if_neg c7] at H
          have c7b0 : (a0 == 4) = false := beq_eq_false_iff_ne.mpr c7
          have c7b1 : (a0 != 4) = true := bne_iff_ne.mpr c7
          by_cases c9 : a0 = 5
          · rw [if_pos c9] at H
            have c9b0 : (a0 == 5) = true := beq_iff_eq.mpr c9
            have c9b1 : (a0 != 5) = false := bne_eq_false_iff_eq.mpr c9
            clear c9
            replace H := Option.bind_eq_some_iff.mp H
            obtain ⟨t200, A100, H⟩ := H
            replace H : (some t200) = some r := H
            have A10 := Aside0.mk A100
            clear A100
            obtain rfl := Option.some.inj H
            go_enter Try.func65, Try.ntmps65
            go_wp2_with (first | ((with_reducible refine gate_callee (f := 71) rfl ?_); refine goesL_ (some 34) rfl rfl Try.func71 (by kernel_rfl) rfl #[.bool (decide (a1 < a2))] rfl ab1_ ?_; (with_reducible refine (impl_truth.calls (decide (a1 < a2)) t200 _ A10.out).mono ?_); rintro e w' ⟨rfl, ⟨nd, rfl⟩⟩; refine ⟨_, rfl, ?_⟩))
            go_ret
            exact ⟨by first | rfl | (simp; done) | (simp [*]; done), ab17_⟩
          · rw [if_neg c9] at H
            have c9b0 : (a0 == 5) = false := beq_eq_false_iff_ne.mpr c9
            have c9b1 : (a0 != 5) = true := bne_iff_ne.mpr c9
            by_cases c11 : a0 = 6
            · rw [if_pos c11] at H
              have c11b0 : (a0 == 6) = true := beq_iff_eq.mpr c11
              have c11b1 : (a0 != 6) = false := bne_eq_false_iff_eq.mpr c11
              clear c11
              by_cases c12 : 0 ≤ (Go.bits .and .i64 a2 31)
              · rw [if_pos c12] at H
                have c12b0 := eq_true c12
                have c12b1 : decide (0 ≤ (Go.bits .and .i64 a2 31)) = true := decide_eq_true c12
                clear c12
                obtain ⟨ji13, hji13⟩ : ∃ j_ : Int, (shl .i64 a1 (Go.bits .and .i64 a2 31)) = j_ := ⟨_, rfl⟩
                replace H : ((impl_Wrap.f (ji13)).bind fun t201 => (some t201)) = some r := by first | (rw [hji13] at H; exact H) | (simp only [hji13] at H ⊢; exact H)
                have hji13_ : (IntKind.i64.wrap (a1 * 2 ^ min (Go.bits .and .i64 a2 31).toNat 64)) = ji13 := hji13
                have hji13z : (Go.bits .and .i64 a2 31) ≤ 64 → (IntKind.i64.wrap (a1 * 2 ^ (Go.bits .and .i64 a2 31).toNat)) = ji13 := shl_small hji13
                have hji13y : (wrap64 (a1 * 2 ^ min (Go.bits .and .i64 a2 31).toNat 64)) = ji13 := (i64_w _).symm.trans hji13_
                have hji13x : (Go.bits .and .i64 a2 31) ≤ 64 → (wrap64 (a1 * 2 ^ (Go.bits .and .i64 a2 31).toNat)) = ji13 := fun h_ => (i64_w _).symm.trans (hji13z h_)
                replace H := Option.bind_eq_some_iff.mp H
                obtain ⟨t201, A140, H⟩ := H
                replace H : (some t201) = some r := H
                have A14 := Aside0.mk A140
                clear A140
                obtain rfl := Option.some.inj H
                go_enter Try.func65, Try.ntmps65
                go_wp2_with (first | ((with_reducible refine gate_callee (f := 33) rfl ?_); refine goesL_ (some 41) rfl rfl Try.func33 (by kernel_rfl) rfl #[.int .i64 ji13] rfl (by (try simp only [List.map_toArray, List.map_cons, List.map_nil]); first | done | (simp only [hji13]; rfl) | rfl | (simp only [List.length_drop, List.length_take]; rfl)) ?_; (with_reducible refine (impl_Wrap.calls ji13 t201 _ A14.out).mono ?_); rintro e w' ⟨rfl, ⟨nd, rfl⟩⟩; refine ⟨_, rfl, ?_⟩))
                go_ret
                exact ⟨by first | rfl | (simp; done) | (simp only [← hji13] <;> (first | rfl | simp)) | (simp [*]; done), ab17_⟩
              · rw [if_neg c12] at H
                exact absurd H (by simp)
            · rw [if_neg c11] at H
              have c11b0 : (a0 == 6) = false := beq_eq_false_iff_ne.mpr c11
              have c11b1 : (a0 != 6) = true := bne_iff_ne.mpr c11
              by_cases c15 : a0 = 7
              · rw [if_pos c15] at H
                have c15b0 : (a0 == 7) = true := beq_iff_eq.mpr c15
                have c15b1 : (a0 != 7) = false := bne_eq_false_iff_eq.mpr c15
                clear c15
                by_cases c16 : 0 ≤ (Go.bits .and .i64 a2 31)
                · rw [if_pos c16] at H
                  have c16b0 := eq_true c16
                  have c16b1 : decide (0 ≤ (Go.bits .and .i64 a2 31)) = true := decide_eq_true c16
                  clear c16
                  obtain ⟨ji17, hji17⟩ : ∃ j_ : Int, (shr .i64 a1 (Go.bits .and .i64 a2 31)) = j_ := ⟨_, rfl⟩
                  replace H : (some ji17) = some r := by first | (rw [hji17] at H; exact H) | (simp only [hji17] at H ⊢; exact H)
                  have hji17_ : (a1 / 2 ^ min (Go.bits .and .i64 a2 31).toNat 64) = ji17 := hji17
                  have hji17z : (Go.bits .and .i64 a2 31) ≤ 64 → (a1 / 2 ^ (Go.bits .and .i64 a2 31).toNat) = ji17 := shr_small hji17
                  obtain rfl := Option.some.inj H
                  go_enter Try.func65, Try.ntmps65
                  go_wp2
                  go_ret
                  exact ⟨by first | rfl | (simp; done) | (simp only [← hji17] <;> (first | rfl | simp)) | (simp [*]; done), ab17_⟩
                · rw [if_neg c16] at H
                  exact absurd H (by simp)
              · rw [if_neg c15] at H
                have c15b0 : (a0 == 7) = false := beq_eq_false_iff_ne.mpr c15
                have c15b1 : (a0 != 7) = true := bne_iff_ne.mpr c15
                by_cases c18 : a0 = 8
                · rw [if_pos c18] at H
                  have c18b0 : (a0 == 8) = true := beq_iff_eq.mpr c18
                  have c18b1 : (a0 != 8) = false := bne_eq_false_iff_eq.mpr c18
                  clear c18
                  replace H := Option.bind_eq_some_iff.mp H
                  obtain ⟨t202, A190, H⟩ := H
                  replace H : (some t202) = some r := H
                  have A19 := Aside0.mk A190
                  clear A190
                  obtain rfl := Option.some.inj H
                  go_enter Try.func65, Try.ntmps65
                  go_wp2_with (first | ((with_reducible refine gate_callee (f := 33) rfl ?_); refine goesL_ (some 53) rfl rfl Try.func33 (by kernel_rfl) rfl #[.int .i64 (wrap64 (a1 + a2))] rfl ab1_ ?_; (with_reducible refine (impl_Wrap.calls (wrap64 (a1 + a2)) t202 _ A19.out).mono ?_); rintro e w' ⟨rfl, ⟨nd, rfl⟩⟩; refine ⟨_, rfl, ?_⟩))
                  go_ret
                  exact ⟨by first | rfl | (simp; done) | (simp [*]; done), ab17_⟩
                · rw [if_neg c18] at H
                  have c18b0 : (a0 == 8) = false := beq_eq_false_iff_ne.mpr c18
                  have c18b1 : (a0 != 8) = true := bne_iff_ne.mpr c18
                  by_cases c20 : a0 = 9
                  · rw [if_pos c20] at H
                    have c20b0 : (a0 == 9) = true := beq_iff_eq.mpr c20
                    have c20b1 : (a0 != 9) = false := bne_eq_false_iff_eq.mpr c20
                    clear c20
                    replace H := Option.bind_eq_some_iff.mp H
                    obtain ⟨t203, A210, H⟩ := H
                    replace H : (some t203) = some r := H
                    have A21 := Aside0.mk A210
                    clear A210
                    obtain rfl := Option.some.inj H
                    go_enter Try.func65, Try.ntmps65
                    go_wp2_with (first | ((with_reducible refine gate_callee (f := 33) rfl ?_); refine goesL_ (some 59) rfl rfl Try.func33 (by kernel_rfl) rfl #[.int .i64 (wrap64 (a1 - a2))] rfl ab1_ ?_; (with_reducible refine (impl_Wrap.calls (wrap64 (a1 - a2)) t203 _ A21.out).mono ?_); rintro e w' ⟨rfl, ⟨nd, rfl⟩⟩; refine ⟨_, rfl, ?_⟩))
                    go_ret
                    exact ⟨by first | rfl | (simp; done) | (simp [*]; done), ab17_⟩
                  · rw [if_neg c20] at H
                    have c20b0 : (a0 == 9) = false := beq_eq_false_iff_ne.mpr c20
                    have c20b1 : (a0 != 9) = true := bne_iff_ne.mpr c20
                    by_cases c22 : a0 = 10
                    · rw [if_pos c22] at H
                      have c22b0 : (a0 == 10) = true := beq_iff_eq.mpr c22
                      have c22b1 : (a0 != 10) = false := bne_eq_false_iff_eq.mpr c22
                      clear c22
                      replace H := Option.bind_eq_some_iff.mp H
                      obtain ⟨t204, A230, H⟩ := H
                      replace H : (some t204) = some r := H
                      have A23 := Aside0.mk A230
                      clear A230
                      obtain rfl := Option.some.inj H
                      go_enter Try.func65, Try.ntmps65
                      go_wp2_with (first | ((with_reducible refine gate_callee (f := 33) rfl ?_); refine goesL_ (some 65) rfl rfl Try.func33 (by kernel_rfl) rfl #[.int .i64 (wrap64 (a1 * a2))] rfl ab1_ ?_; (with_reducible refine (impl_Wrap.calls (wrap64 (a1 * a2)) t204 _ A23.out).mono ?_); rintro e w' ⟨rfl, ⟨nd, rfl⟩⟩; refine ⟨_, rfl, ?_⟩))
                      go_ret
                      exact ⟨by first | rfl | (simp; done) | (simp [*]; done), ab17_⟩
                    · rw [if_neg c22] at H
                      have c22b0 : (a0 == 10) = false := beq_eq_false_iff_ne.mpr c22
                      have c22b1 : (a0 != 10) = true := bne_iff_ne.mpr c22
                      by_cases c24 : a0 = 11
                      · rw [if_pos c24] at H
                        have c24b0 : (a0 == 11) = true := beq_iff_eq.mpr c24
                        have c24b1 : (a0 != 11) = false := bne_eq_false_iff_eq.mpr c24
                        clear c24
                        by_cases c25 : a2 = 0
                        · rw [if_pos c25] at H
                          have c25b0 : (a2 == 0) = true := beq_iff_eq.mpr c25
                          have c25b1 : (a2 != 0) = false := bne_eq_false_iff_eq.mpr c25
                          clear c25
                          obtain rfl := Option.some.inj H
                          go_enter Try.func65, Try.ntmps65
                          go_wp2
                          go_ret
                          exact ⟨by first | rfl | (simp; done) | (simp [*]; done), ab17_⟩
                        · rw [if_neg c25] at H
                          have c25b0 : (a2 == 0) = false := beq_eq_false_iff_ne.mpr c25
                          have c25b1 : (a2 != 0) = true := bne_iff_ne.mpr c25
                          replace H := Option.bind_eq_some_iff.mp H
                          obtain ⟨t205, A260, H⟩ := H
                          replace H : (some t205) = some r := H
                          have A26 := Aside0.mk A260
                          clear A260
                          obtain rfl := Option.some.inj H
                          go_enter Try.func65, Try.ntmps65
                          go_wp2_with (first | ((with_reducible refine gate_callee (f := 33) rfl ?_); refine goesL_ (some 73) rfl rfl Try.func33 (by kernel_rfl) rfl #[.int .i64 (wrap64 (Int.tdiv a1 a2))] rfl ab1_ ?_; (with_reducible refine (impl_Wrap.calls (wrap64 (Int.tdiv a1 a2)) t205 _ A26.out).mono ?_); rintro e w' ⟨rfl, ⟨nd, rfl⟩⟩; refine ⟨_, rfl, ?_⟩))
                          go_ret
                          exact ⟨by first | rfl | (simp; done) | (simp [*]; done), ab17_⟩
                      · rw [if_neg c24] at H
                        have c24b0 : (a0 == 11) = false := beq_eq_false_iff_ne.mpr c24
                        have c24b1 : (a0 != 11) = true := bne_iff_ne.mpr c24
                        by_cases c27 : a2 = 0
                        · rw [if_pos c27] at H
                          have c27b0 : (a2 == 0) = true := beq_iff_eq.mpr c27
                          have c27b1 : (a2 != 0) = false := bne_eq_false_iff_eq.mpr c27
                          clear c27
                          obtain rfl := Option.some.inj H
                          go_enter Try.func65, Try.ntmps65
                          go_wp2
                          go_ret
                          exact ⟨by first | rfl | (simp; done) | (simp [*]; done), ab17_⟩
                        · rw [if_neg c27] at H
                          have c27b0 : (a2 == 0) = false := beq_eq_false_iff_ne.mpr c27
                          have c27b1 : (a2 != 0) = true := bne_iff_ne.mpr c27
                          obtain rfl := Option.some.inj H
                          go_enter Try.func65, Try.ntmps65
                          go_wp2
                          go_ret
                          exact ⟨by first | rfl | (simp; done) | (simp [*]; done), ab17_⟩

end Go.Proofs.Ytajifknepdikbaa.PA

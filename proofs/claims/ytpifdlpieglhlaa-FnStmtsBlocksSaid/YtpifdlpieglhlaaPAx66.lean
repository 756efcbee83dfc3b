-- made by a program of this session (wip/myprint.py over the kit's print)
import Derived.Test.YtpifdlpieglhlaaV
import Derived.Test.YtpifdlpieglhlaaPAx0
import Derived.Test.YtpifdlpieglhlaaPAx1
import Derived.Test.YtpifdlpieglhlaaPAx23
import Derived.Test.YtpifdlpieglhlaaPAx36
import Derived.Test.YtpifdlpieglhlaaPAx64
namespace Go.Proofs.Ytpifdlpieglhlaa.PA
open Go.RowKit Go.Proofs.YtpifdlpieglhlaaW.PrintWords Go.Proofs.YtpifdlpieglhlaaW.PrintLast Go.Proofs.YtpifdlpieglhlaaW.PrintMore
attribute [local go_sem] max2_int min2_int max_two min_two max_three min_three max_four min_four   -- for this text's walks alone
set_option linter.unusedVariables false
set_option linter.unusedSimpArgs false

/-! ### laws_FnStmtsBlocks: function 5 -/
theorem laws_FnStmtsBlocks.mono_l : ∀ k, (∀ y0 y1 y2 y3, LeO (laws_FnStmtsBlocks.j0 k y0 y1 y2 y3) (laws_FnStmtsBlocks.j0 (k + 1) y0 y1 y2 y3)) ∧ (∀ y0 y1, LeO (laws_FnStmtsBlocks.l0 k y0 y1) (laws_FnStmtsBlocks.l0 (k + 1) y0 y1))
  | 0 => ⟨fun _ _ _ _ r h => by simp [laws_FnStmtsBlocks.j0] at h, fun _ _ r h => by simp [laws_FnStmtsBlocks.l0] at h⟩
  | k + 1 => by
    obtain ⟨ih0, ih1⟩ := laws_FnStmtsBlocks.mono_l k
    refine ⟨?_, ?_⟩
    · intro y0 y1 y2 y3
      unfold laws_FnStmtsBlocks.j0
      repeat' first
      | (with_reducible exact ih0 _ _ _ _)
      | (with_reducible exact ih1 _ _)
      | (with_reducible exact impl_StmtsValid.mono _ _)
      | (with_reducible exact spec_DrawStmtsValid.mono _ _)
      | (with_reducible exact spec_StmtsValid.mono _ _)
      | (with_reducible exact LeO.refl _)
      | (with_reducible exact LeO.none _)
      | (with_reducible refine LeO.ite ?_ ?_)
      | (with_reducible refine LeO.bind ?_ (fun _ => ?_))
      | exact ih0 _ _ _ _
      | exact ih1 _ _
      | exact impl_StmtsValid.mono _ _
      | exact spec_DrawStmtsValid.mono _ _
      | exact spec_StmtsValid.mono _ _
      | exact LeO.none _
      | refine LeO.ite ?_ ?_
      | refine LeO.bind ?_ (fun _ => ?_)
    · intro y0 y1
      unfold laws_FnStmtsBlocks.l0
      repeat' first
      | (with_reducible exact ih0 _ _ _ _)
      | (with_reducible exact ih1 _ _)
      | (with_reducible exact impl_StmtsValid.mono _ _)
      | (with_reducible exact spec_DrawStmtsValid.mono _ _)
      | (with_reducible exact spec_StmtsValid.mono _ _)
      | (with_reducible exact LeO.refl _)
      | (with_reducible exact LeO.none _)
      | (with_reducible refine LeO.ite ?_ ?_)
      | (with_reducible refine LeO.bind ?_ (fun _ => ?_))
      | exact ih0 _ _ _ _
      | exact ih1 _ _
      | exact impl_StmtsValid.mono _ _
      | exact spec_DrawStmtsValid.mono _ _
      | exact spec_StmtsValid.mono _ _
      | exact LeO.none _
      | refine LeO.ite ?_ ?_
      | refine LeO.bind ?_ (fun _ => ?_)
theorem laws_FnStmtsBlocks.mono : ∀ a0 k, LeO (laws_FnStmtsBlocks.f k a0) (laws_FnStmtsBlocks.f (k + 1) a0) := by
  intro a0 k
  obtain ⟨ih0, ih1⟩ := laws_FnStmtsBlocks.mono_l k
  unfold laws_FnStmtsBlocks.f
  repeat' first
      | (with_reducible exact ih0 _ _ _ _)
      | (with_reducible exact ih1 _ _)
      | (with_reducible exact impl_StmtsValid.mono _ _)
      | (with_reducible exact spec_DrawStmtsValid.mono _ _)
      | (with_reducible exact spec_StmtsValid.mono _ _)
      | (with_reducible exact LeO.refl _)
      | (with_reducible exact LeO.none _)
      | (with_reducible refine LeO.ite ?_ ?_)
      | (with_reducible refine LeO.bind ?_ (fun _ => ?_))
      | exact ih0 _ _ _ _
      | exact ih1 _ _
      | exact impl_StmtsValid.mono _ _
      | exact spec_DrawStmtsValid.mono _ _
      | exact spec_StmtsValid.mono _ _
      | exact LeO.none _
      | refine LeO.ite ?_ ?_
      | refine LeO.bind ?_ (fun _ => ?_)
set_option maxHeartbeats 8000000 in
set_option maxRecDepth 100000 in
theorem laws_FnStmtsBlocks.calls (k : Nat) (A0 : Option Addr) (c0 : Nat) (l0 : List Int) (r : Bool) (w : World) (hr0 : Kd.C (Kd.int .u8) w A0 l0.length l0) (hc0 : l0.length ≤ c0) (h : laws_FnStmtsBlocks.f k l0 = some r) :
    Calls Try.prog 5 #[.slice A0 l0.length c0] w fun e w' => e = .returned (.bool r) ∧ Below w.heap.size w w' := by
  have HR0 := Aside0.mk hr0
  have HC0 := Aside0.mk hc0
  clear hr0 hc0
  have HB := Aside0.mk (Below.refl w.heap.size w)
  have H : (if (l0.length : Int) > 1048576 then (some true) else ((spec_DrawStmtsValid.f k l0).bind fun t647 => ((impl_StmtsValid.f k t647).bind fun t650 => ((spec_StmtsValid.f k t647).bind fun t651 => (if (t650 != t651) = true then (laws_FnStmtsBlocks.j0 k t647 t650 t651 true) else (laws_FnStmtsBlocks.j0 k t647 t650 t651 (!t650))))))) = some r := h
  clear h
  by_cases c2 : (l0.length : Int) > 1048576
  · rw [if_pos c2] at H
    have c2b0 : decide (1048576 < (l0.length : Int)) = true := decide_eq_true c2
    have c2b1 : decide (1048576 < l0.length) = true := decide_eq_true (by omega)
    clear c2
    obtain rfl := Option.some.inj H
    go_enter Try.func5, Try.ntmps5
    go_wp2
    go_ret
    exact ⟨by first | rfl | (simp [errW_none, errW_some] <;> rfl) | (simp [*, errW_none, errW_some] <;> rfl), ab1_⟩
  · rw [if_neg c2] at H
    have c2b0 : decide (1048576 < (l0.length : Int)) = false := decide_eq_false c2
    have c2b1 : decide (1048576 < l0.length) = false := decide_eq_false (by omega)
    clear c2
    replace H := Option.bind_eq_some_iff.mp H
    obtain ⟨t647, A30, H⟩ := H
    replace H : ((impl_StmtsValid.f k t647).bind fun t650 => ((spec_StmtsValid.f k t647).bind fun t651 => (if (t650 != t651) = true then (laws_FnStmtsBlocks.j0 k t647 t650 t651 true) else (laws_FnStmtsBlocks.j0 k t647 t650 t651 (!t650))))) = some r := H
    have A3 := Aside0.mk A30
    clear A30
    replace H := Option.bind_eq_some_iff.mp H
    obtain ⟨t650, A40, H⟩ := H
    replace H : ((spec_StmtsValid.f k t647).bind fun t651 => (if (t650 != t651) = true then (laws_FnStmtsBlocks.j0 k t647 t650 t651 true) else (laws_FnStmtsBlocks.j0 k t647 t650 t651 (!t650)))) = some r := H
    have A4 := Aside0.mk A40
    clear A40
    replace H := Option.bind_eq_some_iff.mp H
    obtain ⟨t651, A50, H⟩ := H
    replace H : (if (t650 != t651) = true then (laws_FnStmtsBlocks.j0 k t647 t650 t651 true) else (laws_FnStmtsBlocks.j0 k t647 t650 t651 (!t650))) = some r := H
    have A5 := Aside0.mk A50
    clear A50
    have HC6 := Aside0.mk H
    clear H
    go_enter Try.func5, Try.ntmps5
    go_upto_region 6 with (first | ((with_reducible refine gate_callee (f := 16) rfl ?_); refine goesL_ (some 11) rfl rfl Try.func16 (by kernel_rfl) rfl #[.slice A0 l0.length c0] rfl ab2_ ?_; (with_reducible refine (spec_DrawStmtsValid.calls k _ _ l0 t647 _ ?side1 ?side2 A3.out).mono ?_); (case side1 => repeat (first | exact HR0.out | (with_reducible refine Kd.C_alloc ?_ _) | (with_reducible refine Kd.C_drewN ?_ _) | (with_reducible refine Kd.C_drew ?_))); (case side2 => exact HC0.out); rintro e w7 ⟨v648, rfl, ho0, hb⟩; refine ⟨_, rfl, ?_⟩; have n0_ := Aside0.mk (Kd.N_lower (Kd.N_mono (ok' := fun k_ => True) ho0 (fun k_ hk_ => trivial)) (below_size ab1_)); have n1_ := Aside0.mk (below_step ab1_ hb); clear HB; have HO649 := n0_; have HB := n1_; clear n0_ n1_; (try clear hb); (try clear hb2); (try clear hk); (try clear hi); (try clear ho0); obtain ⟨Ao8, co8, eo8⟩ := Kd.N_slice HO649.out; subst eo8) | ((with_reducible refine gate_callee (f := 14) rfl ?_); refine goesL_ (some 13) rfl rfl Try.func14 (by kernel_rfl) rfl #[.slice Ao8 t647.length co8] rfl ab2_ ?_; (with_reducible refine (impl_StmtsValid.calls k _ _ t647 t650 _ ?side1 ?side2 A4.out).mono ?_); (case side1 => repeat (first | exact (Kd.N_reads' HO649.out).2.2 | (with_reducible refine Kd.C_alloc ?_ _) | (with_reducible refine Kd.C_drewN ?_ _) | (with_reducible refine Kd.C_drew ?_))); (case side2 => exact (Kd.N_reads' HO649.out).2.1); rintro e w9 ⟨rfl, hb⟩; refine ⟨_, rfl, ?_⟩; have n0_ := Aside0.mk (Kd.N_below (aN_ HO649.out) hb); have n1_ := Aside0.mk (below_step ab1_ hb); clear HO649; clear HB; have HO649 := n0_; have HB := n1_; clear n0_ n1_; (try clear hb); (try clear hb2); (try clear hk); (try clear hi)) | ((with_reducible refine gate_callee (f := 12) rfl ?_); refine goesL_ (some 15) rfl rfl Try.func12 (by kernel_rfl) rfl #[.slice Ao8 t647.length co8] rfl ab2_ ?_; (with_reducible refine (spec_StmtsValid.calls k _ _ t647 t651 _ ?side1 ?side2 A5.out).mono ?_); (case side1 => repeat (first | exact (Kd.N_reads' HO649.out).2.2 | (with_reducible refine Kd.C_alloc ?_ _) | (with_reducible refine Kd.C_drewN ?_ _) | (with_reducible refine Kd.C_drew ?_))); (case side2 => exact (Kd.N_reads' HO649.out).2.1); rintro e w10 ⟨rfl, hb⟩; refine ⟨_, rfl, ?_⟩; have n0_ := Aside0.mk (Kd.N_below (aN_ HO649.out) hb); have n1_ := Aside0.mk (below_step ab1_ hb); clear HO649; clear HB; have HO649 := n0_; have HB := n1_; clear n0_ n1_; (try clear hb); (try clear hb2); (try clear hk); (try clear hi)))
    (try simp only [Act.put, List.setIfInBounds_toArray, List.set_cons_zero, List.set_cons_succ])
    go_cut [22] (fun v22 wc => ∃ (kq : Nat) (x22_5 : Bool), v22 = .bool x22_5 ∧ Aside0 (laws_FnStmtsBlocks.j0 kq t647 t650 t651 x22_5 = some r) ∧ Aside0 (kq ≤ k) ∧ Aside0 (Kd.N k36 36 wc w.heap.size (fun _ => True) (.slice Ao8 t647.length co8) t647) ∧ Aside0 (Below w.heap.size w wc))
    case first =>
      have H := HC6.out
      clear HC6
      by_cases c11 : (t650 != t651) = true
      · rw [if_pos c11] at H
        have c11b0 : (t650 != t651) = true := c11
        (try (have c11b1 : decide (t650 = t651) = false := by simpa using c11))
        (try (have c11b2 : (t650 == t651) = false := by simpa using c11))
        (try (have c11b3 : ¬ (t650 = t651) := by simpa using c11))
        clear c11
        (first | rw [c11b0] | (simp only [i64_w, i32_w]; rw [c11b0]) | skip)
        have H' := Aside0.mk H
        clear H
        go_wp2
        go_meet
        case rel => exact ⟨_, (true), (by first | rfl | (simp; done) | (simp [*]; done)), H', ⟨by first | omega | exact Nat.le_refl _⟩, ⟨by (with_reducible repeat (first | apply Kd.N_alloc | apply Kd.N_drewN | apply Kd.N_drew)); exact HO649.out⟩, ⟨ab1_⟩⟩
      · rw [if_neg c11] at H
        have c11b0 : (t650 != t651) = false := by simpa using c11
        (try (have c11b1 : decide (t650 = t651) = true := by simpa using c11))
        (try (have c11b2 : (t650 == t651) = true := by simpa using c11))
        clear c11
        (first | rw [c11b0] | (simp only [i64_w, i32_w]; rw [c11b0]) | skip)
        have H' := Aside0.mk H
        clear H
        go_wp2
        go_meet
        case rel => exact ⟨_, (!t650), (by first | rfl | (simp; done) | (simp [*]; done)), H', ⟨by first | omega | exact Nat.le_refl _⟩, ⟨by (with_reducible repeat (first | apply Kd.N_alloc | apply Kd.N_drewN | apply Kd.N_drew)); exact HO649.out⟩, ⟨ab1_⟩⟩
    case rest =>
      clear HC6
      try clear c1
      try clear c2
      try clear c2b0
      try clear c2b1
      try clear p2
      try clear c5
      try clear c11
      try clear c11b0
      try clear c11b1
      try clear c11b2
      obtain ⟨kq, x22_5, rfl, HA, HJ5, HO_3, HB⟩ := hcut
      cases kq with
      | zero => exact absurd HA.out (by simp [laws_FnStmtsBlocks.j0])
      | succ kj5 =>
        have H := HA.out
        clear HA
        simp only [laws_FnStmtsBlocks.j0] at H
        by_cases c12 : x22_5 = true
        · subst c12
          have H1 : (some (t650 == t651)) = some r := by rw [if_pos rfl] at H; exact H
          clear H
          have H := H1
          clear H1
          obtain rfl := Option.some.inj H
          go_wp2
          go_ret
          exact ⟨by first | rfl | (simp [errW_none, errW_some] <;> rfl) | (simp [*, errW_none, errW_some] <;> rfl), ab1_⟩
        · replace c12 := Bool.eq_false_iff.mpr c12
          subst c12
          have H1 : (laws_FnStmtsBlocks.l0 kj5 t647 0) = some r := by rw [if_neg (show ¬ (false = true) by decide)] at H; exact H
          clear H
          have H := H1
          clear H1
          have H' := Aside0.mk H
          clear H
          go_wp2
          go_loopg [6] kj5 (fun kq v6 w' => ∃ (x6_2 : Int), v6 = .int .i64 x6_2 ∧ Aside0 (laws_FnStmtsBlocks.l0 kq t647 x6_2 = some r) ∧ Aside0 (kq ≤ kj5) ∧ Aside0 (Kd.N k36 36 w' w.heap.size (fun _ => True) (.slice Ao8 t647.length co8) t647) ∧ Aside0 (Below w.heap.size w w'))
          case atStart => exact ⟨(0), (by first | rfl | (simp; done) | (simp [*]; done)), H', ⟨Nat.le_refl _⟩, ⟨by (with_reducible repeat (first | apply Kd.N_alloc | apply Kd.N_drewN | apply Kd.N_drew)); exact HO_3.out⟩, ⟨ab1_⟩⟩
          case round =>
            clear H'
            try clear c1
            try clear c2
            try clear c2b0
            try clear c2b1
            try clear p2
            try clear c5
            try clear c11
            try clear c11b0
            try clear c11b1
            try clear c11b2
            try clear c12
            try clear p2
            obtain ⟨x6_2, rfl, HA, HK2, HO_3, HB⟩ := hrel
            cases gk with
            | zero => exact absurd HA.out (by simp [laws_FnStmtsBlocks.l0])
            | succ k2 =>
              have H := HA.out
              clear HA
              simp only [laws_FnStmtsBlocks.l0] at H
              by_cases c13 : x6_2 < (t647.length : Int)
              · rw [if_pos c13] at H
                have c13b0 : decide (x6_2 < (t647.length : Int)) = true := decide_eq_true c13
                clear c13
                by_cases c14 : 0 ≤ x6_2
                · rw [if_pos c14] at H
                  have c14b0 : decide (0 ≤ x6_2) = true := decide_eq_true c14
                  clear c14
                  replace H := Option.bind_eq_some_iff.mp H
                  obtain ⟨t653, A150, H⟩ := H
                  replace H : (if t653 = true then ((impl_StmtsValid.f k2 ((rd_T36 t647 x6_2).f5)).bind fun t655 => (if t655 = true then (laws_FnStmtsBlocks.l0 k2 t647 (wrap64 (x6_2 + 1))) else (some false))) else (some false)) = some r := H
                  have A15 := Aside0.mk A150
                  clear A150
                  by_cases c16 : t653 = true
                  · subst c16
                    have H1 : ((impl_StmtsValid.f k2 ((rd_T36 t647 x6_2).f5)).bind fun t655 => (if t655 = true then (laws_FnStmtsBlocks.l0 k2 t647 (wrap64 (x6_2 + 1))) else (some false))) = some r := by rw [if_pos rfl] at H; exact H
                    clear H
                    have H := H1
                    clear H1
                    replace H := Option.bind_eq_some_iff.mp H
                    obtain ⟨t655, A170, H⟩ := H
                    replace H : (if t655 = true then (laws_FnStmtsBlocks.l0 k2 t647 (wrap64 (x6_2 + 1))) else (some false)) = some r := H
                    have A17 := Aside0.mk A170
                    clear A170
                    by_cases c18 : t655 = true
                    · subst c18
                      have H1 : (laws_FnStmtsBlocks.l0 k2 t647 (wrap64 (x6_2 + 1))) = some r := by rw [if_pos rfl] at H; exact H
                      clear H
                      have H := H1
                      clear H1
                      have H' := Aside0.mk H
                      clear H
                      have p652 : 0 ≤ (x6_2 : Int) := of_decide_eq_true (by first | (with_reducible assumption) | assumption)
                      have q652 : x6_2 < (t647.length : Int) := of_decide_eq_true (by first | (with_reducible assumption) | assumption)
                      obtain ⟨ad652, A652_5, c652_5, A652_6, c652_6, A652_7, c652_7, e652, hx652_0, hx652_1, hx652_2, hx652_3, hx652_4, hx652_5, hx652_6, hx652_7, hl652_5, hi652_5, hl652_6, hi652_6, hl652_7, hi652_7⟩ := at_T36 (Kd.N_reads' HO_3.out).2.2 x6_2 p652 q652
                      cases e652
                      obtain ⟨ce652, hce652, hMe652, hcc652⟩ := Kd.N_get HO_3.out z36 x6_2 p652 (by first | exact q652 | exact of_decide_eq_true (by first | (with_reducible assumption) | assumption) | (have e_ := (Kd.N_reads' HO_3.out).1; omega))
                      obtain ⟨ua652_5, uc652_5, ua652_6, uc652_6, ua652_7, uc652_7, rfl, ul652_5, ge652_5, ul652_6, ge652_6, ul652_7, ge652_7⟩ := k36_openF hMe652
                      have hv652_5 := hcc652 5 _ rfl
                      rw [add_field _ _ 5 (by omega)] at hv652_5
                      replace hv652_5 := Option.some.inj (hv652_5.symm.trans hx652_5)
                      injection hv652_5 with hva_ hvn_ hvc_
                      rw [hva_] at ge652_5
                      rw [hvc_] at ul652_5
                      have HL652_5 := Aside0.mk (show Kd.V k34 34 _ w.heap.size _ _ ((rd_T36 t647 x6_2).f3.f2) from Kd.V_mk ul652_5 ge652_5)
                      clear hva_ hvn_ hvc_ ge652_5 ul652_5
                      have hv652_6 := hcc652 6 _ rfl
                      rw [add_field _ _ 6 (by omega)] at hv652_6
                      replace hv652_6 := Option.some.inj (hv652_6.symm.trans hx652_6)
                      injection hv652_6 with hva_ hvn_ hvc_
                      rw [hva_] at ge652_6
                      rw [hvc_] at ul652_6
                      have HL652_6 := Aside0.mk (show Kd.V k36 36 _ w.heap.size _ _ ((rd_T36 t647 x6_2).f4) from Kd.V_mk ul652_6 ge652_6)
                      clear hva_ hvn_ hvc_ ge652_6 ul652_6
                      have hv652_7 := hcc652 7 _ rfl
                      rw [add_field _ _ 7 (by omega)] at hv652_7
                      replace hv652_7 := Option.some.inj (hv652_7.symm.trans hx652_7)
                      injection hv652_7 with hva_ hvn_ hvc_
                      rw [hva_] at ge652_7
                      rw [hvc_] at ul652_7
                      have HL652_7 := Aside0.mk (show Kd.V k36 36 _ w.heap.size _ _ ((rd_T36 t647 x6_2).f5) from Kd.V_mk ul652_7 ge652_7)
                      clear hva_ hvn_ hvc_ ge652_7 ul652_7
                      clear hcc652 hce652
                      have HR652_5 := Aside0.mk hi652_5
                      have HC652_5 := Aside0.mk hl652_5
                      clear hi652_5 hl652_5
                      have HR652_6 := Aside0.mk hi652_6
                      have HC652_6 := Aside0.mk hl652_6
                      clear hi652_6 hl652_6
                      have HR652_7 := Aside0.mk hi652_7
                      have HC652_7 := Aside0.mk hl652_7
                      clear hi652_7 hl652_7
                      replace p652 := eq_true p652
                      replace q652 := eq_true q652
                      go_wp2_with (first | ((with_reducible refine gate_callee (f := 14) rfl ?_); refine goesL_ (some 37) rfl rfl Try.func14 (by kernel_rfl) rfl #[.slice A652_6 ((rd_T36 t647 x6_2).f4).length c652_6] rfl ab2_ ?_; (with_reducible refine (impl_StmtsValid.calls k2 _ _ ((rd_T36 t647 x6_2).f4) true _ ?side1 ?side2 A15.out).mono ?_); (case side1 => repeat (first | exact ab23_ | (with_reducible refine Kd.C_alloc ?_ _) | (with_reducible refine Kd.C_drewN ?_ _) | (with_reducible refine Kd.C_drew ?_))); (case side2 => exact HC652_6.out); rintro e w19 ⟨rfl, hb⟩; refine ⟨_, rfl, ?_⟩; have n0_ := Aside0.mk (Kd.N_below (aN_ HO_3.out) hb); have n1_ := Aside0.mk (Kd.V_below (by (with_reducible repeat (first | apply Kd.V_alloc | apply Kd.V_drewN | apply Kd.V_drew)); exact HL652_5.out) hb); have n2_ := Aside0.mk (Kd.V_below (by (with_reducible repeat (first | apply Kd.V_alloc | apply Kd.V_drewN | apply Kd.V_drew)); exact HL652_6.out) hb); have n3_ := Aside0.mk (Kd.V_below (by (with_reducible repeat (first | apply Kd.V_alloc | apply Kd.V_drewN | apply Kd.V_drew)); exact HL652_7.out) hb); have n4_ := Aside0.mk (Kd.C_below ab35_ hb); have n5_ := Aside0.mk (Kd.C_below ab23_ hb); have n6_ := Aside0.mk (Kd.C_below ab36_ hb); have n7_ := Aside0.mk (below_step ab1_ hb); clear HO_3; clear HL652_5; clear HL652_6; clear HL652_7; clear HR652_5; clear HR652_6; clear HR652_7; clear HB; have HO_3 := n0_; have HL652_5 := n1_; have HL652_6 := n2_; have HL652_7 := n3_; have HR652_5 := n4_; have HR652_6 := n5_; have HR652_7 := n6_; have HB := n7_; clear n0_ n1_ n2_ n3_ n4_ n5_ n6_ n7_; (try clear hb); (try clear hb2); (try clear hk); (try clear hi); have p654 : 0 ≤ (x6_2 : Int) := of_decide_eq_true (by first | (with_reducible assumption) | assumption); have q654 : x6_2 < (t647.length : Int) := of_decide_eq_true (by first | (with_reducible assumption) | assumption); obtain ⟨ad654, A654_5, c654_5, A654_6, c654_6, A654_7, c654_7, e654, hx654_0, hx654_1, hx654_2, hx654_3, hx654_4, hx654_5, hx654_6, hx654_7, hl654_5, hi654_5, hl654_6, hi654_6, hl654_7, hi654_7⟩ := at_T36 (Kd.N_reads' HO_3.out).2.2 x6_2 p654 q654; obtain rfl : ad652 = ad654 := (by injection e654); obtain ⟨ce654, hce654, hMe654, hcc654⟩ := Kd.N_get HO_3.out z36 x6_2 p654 (by first | exact q654 | exact of_decide_eq_true (by first | (with_reducible assumption) | assumption) | (have e_ := (Kd.N_reads' HO_3.out).1; omega)); obtain ⟨ua654_5, uc654_5, ua654_6, uc654_6, ua654_7, uc654_7, rfl, ul654_5, ge654_5, ul654_6, ge654_6, ul654_7, ge654_7⟩ := k36_openF hMe654; have hv654_5 := hcc654 5 _ rfl; rw [add_field _ _ 5 (by omega)] at hv654_5; replace hv654_5 := Option.some.inj (hv654_5.symm.trans hx654_5); injection hv654_5 with hva_ hvn_ hvc_; rw [hva_] at ge654_5; rw [hvc_] at ul654_5; have HL654_5 := Aside0.mk (show Kd.V k34 34 _ w.heap.size _ _ ((rd_T36 t647 x6_2).f3.f2) from Kd.V_mk ul654_5 ge654_5); clear hva_ hvn_ hvc_ ge654_5 ul654_5; have hv654_6 := hcc654 6 _ rfl; rw [add_field _ _ 6 (by omega)] at hv654_6; replace hv654_6 := Option.some.inj (hv654_6.symm.trans hx654_6); injection hv654_6 with hva_ hvn_ hvc_; rw [hva_] at ge654_6; rw [hvc_] at ul654_6; have HL654_6 := Aside0.mk (show Kd.V k36 36 _ w.heap.size _ _ ((rd_T36 t647 x6_2).f4) from Kd.V_mk ul654_6 ge654_6); clear hva_ hvn_ hvc_ ge654_6 ul654_6; have hv654_7 := hcc654 7 _ rfl; rw [add_field _ _ 7 (by omega)] at hv654_7; replace hv654_7 := Option.some.inj (hv654_7.symm.trans hx654_7); injection hv654_7 with hva_ hvn_ hvc_; rw [hva_] at ge654_7; rw [hvc_] at ul654_7; have HL654_7 := Aside0.mk (show Kd.V k36 36 _ w.heap.size _ _ ((rd_T36 t647 x6_2).f5) from Kd.V_mk ul654_7 ge654_7); clear hva_ hvn_ hvc_ ge654_7 ul654_7; clear hcc654 hce654; have HR654_5 := Aside0.mk hi654_5; have HC654_5 := Aside0.mk hl654_5; clear hi654_5 hl654_5; have HR654_6 := Aside0.mk hi654_6; have HC654_6 := Aside0.mk hl654_6; clear hi654_6 hl654_6; have HR654_7 := Aside0.mk hi654_7; have HC654_7 := Aside0.mk hl654_7; clear hi654_7 hl654_7; replace p654 := eq_true p654; replace q654 := eq_true q654) | (go_at_call 14; (with_reducible refine (impl_StmtsValid.calls k2 _ _ ((rd_T36 t647 x6_2).f5) true _ ?side1 ?side2 A17.out).mono ?_); (case side1 => repeat (first | exact ab40_ | (with_reducible refine Kd.C_alloc ?_ _) | (with_reducible refine Kd.C_drewN ?_ _) | (with_reducible refine Kd.C_drew ?_))); (case side2 => exact HC654_7.out); rintro e w20 ⟨rfl, hb⟩; have n0_ := Aside0.mk (Kd.N_below (aN_ HO_3.out) hb); have n1_ := Aside0.mk (Kd.V_below (by (with_reducible repeat (first | apply Kd.V_alloc | apply Kd.V_drewN | apply Kd.V_drew)); exact HL652_5.out) hb); have n2_ := Aside0.mk (Kd.V_below (by (with_reducible repeat (first | apply Kd.V_alloc | apply Kd.V_drewN | apply Kd.V_drew)); exact HL652_6.out) hb); have n3_ := Aside0.mk (Kd.V_below (by (with_reducible repeat (first | apply Kd.V_alloc | apply Kd.V_drewN | apply Kd.V_drew)); exact HL652_7.out) hb); have n4_ := Aside0.mk (Kd.V_below (by (with_reducible repeat (first | apply Kd.V_alloc | apply Kd.V_drewN | apply Kd.V_drew)); exact HL654_5.out) hb); have n5_ := Aside0.mk (Kd.V_below (by (with_reducible repeat (first | apply Kd.V_alloc | apply Kd.V_drewN | apply Kd.V_drew)); exact HL654_6.out) hb); have n6_ := Aside0.mk (Kd.V_below (by (with_reducible repeat (first | apply Kd.V_alloc | apply Kd.V_drewN | apply Kd.V_drew)); exact HL654_7.out) hb); have n7_ := Aside0.mk (Kd.C_below ab35_ hb); have n8_ := Aside0.mk (Kd.C_below ab23_ hb); have n9_ := Aside0.mk (Kd.C_below ab36_ hb); have n10_ := Aside0.mk (Kd.C_below ab57_ hb); have n11_ := Aside0.mk (Kd.C_below ab58_ hb); have n12_ := Aside0.mk (Kd.C_below ab40_ hb); have n13_ := Aside0.mk (below_step ab1_ hb); clear HO_3; clear HL652_5; clear HL652_6; clear HL652_7; clear HL654_5; clear HL654_6; clear HL654_7; clear HR652_5; clear HR652_6; clear HR652_7; clear HR654_5; clear HR654_6; clear HR654_7; clear HB; have HO_3 := n0_; have HL652_5 := n1_; have HL652_6 := n2_; have HL652_7 := n3_; have HL654_5 := n4_; have HL654_6 := n5_; have HL654_7 := n6_; have HR652_5 := n7_; have HR652_6 := n8_; have HR652_7 := n9_; have HR654_5 := n10_; have HR654_6 := n11_; have HR654_7 := n12_; have HB := n13_; clear n0_ n1_ n2_ n3_ n4_ n5_ n6_ n7_ n8_ n9_ n10_ n11_ n12_ n13_; (try clear hb); (try clear hb2); (try clear hk); (try clear hi)))
                      go_roundg k2
                      case measure => have := HJ5.out; have := HK2.out; omega
                      case rel => exact ⟨(wrap64 (x6_2 + 1)), (by first | rfl | (simp; done) | (simp [*]; done)), H', ⟨by have := HJ5.out; have := HK2.out; omega⟩, ⟨by (with_reducible repeat (first | apply Kd.N_alloc | apply Kd.N_drewN | apply Kd.N_drew)); exact HO_3.out⟩, ⟨ab1_⟩⟩
                    · replace c18 := Bool.eq_false_iff.mpr c18
                      subst c18
                      have H1 : (some false) = some r := by rw [if_neg (show ¬ (false = true) by decide)] at H; exact H
                      clear H
                      have H := H1
                      clear H1
                      obtain rfl := Option.some.inj H
                      have p652 : 0 ≤ (x6_2 : Int) := of_decide_eq_true (by first | (with_reducible assumption) | assumption)
                      have q652 : x6_2 < (t647.length : Int) := of_decide_eq_true (by first | (with_reducible assumption) | assumption)
                      obtain ⟨ad652, A652_5, c652_5, A652_6, c652_6, A652_7, c652_7, e652, hx652_0, hx652_1, hx652_2, hx652_3, hx652_4, hx652_5, hx652_6, hx652_7, hl652_5, hi652_5, hl652_6, hi652_6, hl652_7, hi652_7⟩ := at_T36 (Kd.N_reads' HO_3.out).2.2 x6_2 p652 q652
                      cases e652
                      obtain ⟨ce652, hce652, hMe652, hcc652⟩ := Kd.N_get HO_3.out z36 x6_2 p652 (by first | exact q652 | exact of_decide_eq_true (by first | (with_reducible assumption) | assumption) | (have e_ := (Kd.N_reads' HO_3.out).1; omega))
                      obtain ⟨ua652_5, uc652_5, ua652_6, uc652_6, ua652_7, uc652_7, rfl, ul652_5, ge652_5, ul652_6, ge652_6, ul652_7, ge652_7⟩ := k36_openF hMe652
                      have hv652_5 := hcc652 5 _ rfl
                      rw [add_field _ _ 5 (by omega)] at hv652_5
                      replace hv652_5 := Option.some.inj (hv652_5.symm.trans hx652_5)
                      injection hv652_5 with hva_ hvn_ hvc_
                      rw [hva_] at ge652_5
                      rw [hvc_] at ul652_5
                      have HL652_5 := Aside0.mk (show Kd.V k34 34 _ w.heap.size _ _ ((rd_T36 t647 x6_2).f3.f2) from Kd.V_mk ul652_5 ge652_5)
                      clear hva_ hvn_ hvc_ ge652_5 ul652_5
                      have hv652_6 := hcc652 6 _ rfl
                      rw [add_field _ _ 6 (by omega)] at hv652_6
                      replace hv652_6 := Option.some.inj (hv652_6.symm.trans hx652_6)
                      injection hv652_6 with hva_ hvn_ hvc_
                      rw [hva_] at ge652_6
                      rw [hvc_] at ul652_6
                      have HL652_6 := Aside0.mk (show Kd.V k36 36 _ w.heap.size _ _ ((rd_T36 t647 x6_2).f4) from Kd.V_mk ul652_6 ge652_6)
                      clear hva_ hvn_ hvc_ ge652_6 ul652_6
                      have hv652_7 := hcc652 7 _ rfl
                      rw [add_field _ _ 7 (by omega)] at hv652_7
                      replace hv652_7 := Option.some.inj (hv652_7.symm.trans hx652_7)
                      injection hv652_7 with hva_ hvn_ hvc_
                      rw [hva_] at ge652_7
                      rw [hvc_] at ul652_7
                      have HL652_7 := Aside0.mk (show Kd.V k36 36 _ w.heap.size _ _ ((rd_T36 t647 x6_2).f5) from Kd.V_mk ul652_7 ge652_7)
                      clear hva_ hvn_ hvc_ ge652_7 ul652_7
                      clear hcc652 hce652
                      have HR652_5 := Aside0.mk hi652_5
                      have HC652_5 := Aside0.mk hl652_5
                      clear hi652_5 hl652_5
                      have HR652_6 := Aside0.mk hi652_6
                      have HC652_6 := Aside0.mk hl652_6
                      clear hi652_6 hl652_6
                      have HR652_7 := Aside0.mk hi652_7
                      have HC652_7 := Aside0.mk hl652_7
                      clear hi652_7 hl652_7
                      replace p652 := eq_true p652
                      replace q652 := eq_true q652
                      go_wp2_with (first | ((with_reducible refine gate_callee (f := 14) rfl ?_); refine goesL_ (some 37) rfl rfl Try.func14 (by kernel_rfl) rfl #[.slice A652_6 ((rd_T36 t647 x6_2).f4).length c652_6] rfl ab2_ ?_; (with_reducible refine (impl_StmtsValid.calls k2 _ _ ((rd_T36 t647 x6_2).f4) true _ ?side1 ?side2 A15.out).mono ?_); (case side1 => repeat (first | exact ab23_ | (with_reducible refine Kd.C_alloc ?_ _) | (with_reducible refine Kd.C_drewN ?_ _) | (with_reducible refine Kd.C_drew ?_))); (case side2 => exact HC652_6.out); rintro e w21 ⟨rfl, hb⟩; refine ⟨_, rfl, ?_⟩; have n0_ := Aside0.mk (Kd.N_below (aN_ HO_3.out) hb); have n1_ := Aside0.mk (Kd.V_below (by (with_reducible repeat (first | apply Kd.V_alloc | apply Kd.V_drewN | apply Kd.V_drew)); exact HL652_5.out) hb); have n2_ := Aside0.mk (Kd.V_below (by (with_reducible repeat (first | apply Kd.V_alloc | apply Kd.V_drewN | apply Kd.V_drew)); exact HL652_6.out) hb); have n3_ := Aside0.mk (Kd.V_below (by (with_reducible repeat (first | apply Kd.V_alloc | apply Kd.V_drewN | apply Kd.V_drew)); exact HL652_7.out) hb); have n4_ := Aside0.mk (Kd.C_below ab35_ hb); have n5_ := Aside0.mk (Kd.C_below ab23_ hb); have n6_ := Aside0.mk (Kd.C_below ab36_ hb); have n7_ := Aside0.mk (below_step ab1_ hb); clear HO_3; clear HL652_5; clear HL652_6; clear HL652_7; clear HR652_5; clear HR652_6; clear HR652_7; clear HB; have HO_3 := n0_; have HL652_5 := n1_; have HL652_6 := n2_; have HL652_7 := n3_; have HR652_5 := n4_; have HR652_6 := n5_; have HR652_7 := n6_; have HB := n7_; clear n0_ n1_ n2_ n3_ n4_ n5_ n6_ n7_; (try clear hb); (try clear hb2); (try clear hk); (try clear hi); have p654 : 0 ≤ (x6_2 : Int) := of_decide_eq_true (by first | (with_reducible assumption) | assumption); have q654 : x6_2 < (t647.length : Int) := of_decide_eq_true (by first | (with_reducible assumption) | assumption); obtain ⟨ad654, A654_5, c654_5, A654_6, c654_6, A654_7, c654_7, e654, hx654_0, hx654_1, hx654_2, hx654_3, hx654_4, hx654_5, hx654_6, hx654_7, hl654_5, hi654_5, hl654_6, hi654_6, hl654_7, hi654_7⟩ := at_T36 (Kd.N_reads' HO_3.out).2.2 x6_2 p654 q654; obtain rfl : ad652 = ad654 := (by injection e654); obtain ⟨ce654, hce654, hMe654, hcc654⟩ := Kd.N_get HO_3.out z36 x6_2 p654 (by first | exact q654 | exact of_decide_eq_true (by first | (with_reducible assumption) | assumption) | (have e_ := (Kd.N_reads' HO_3.out).1; omega)); obtain ⟨ua654_5, uc654_5, ua654_6, uc654_6, ua654_7, uc654_7, rfl, ul654_5, ge654_5, ul654_6, ge654_6, ul654_7, ge654_7⟩ := k36_openF hMe654; have hv654_5 := hcc654 5 _ rfl; rw [add_field _ _ 5 (by omega)] at hv654_5; replace hv654_5 := Option.some.inj (hv654_5.symm.trans hx654_5); injection hv654_5 with hva_ hvn_ hvc_; rw [hva_] at ge654_5; rw [hvc_] at ul654_5; have HL654_5 := Aside0.mk (show Kd.V k34 34 _ w.heap.size _ _ ((rd_T36 t647 x6_2).f3.f2) from Kd.V_mk ul654_5 ge654_5); clear hva_ hvn_ hvc_ ge654_5 ul654_5; have hv654_6 := hcc654 6 _ rfl; rw [add_field _ _ 6 (by omega)] at hv654_6; replace hv654_6 := Option.some.inj (hv654_6.symm.trans hx654_6); injection hv654_6 with hva_ hvn_ hvc_; rw [hva_] at ge654_6; rw [hvc_] at ul654_6; have HL654_6 := Aside0.mk (show Kd.V k36 36 _ w.heap.size _ _ ((rd_T36 t647 x6_2).f4) from Kd.V_mk ul654_6 ge654_6); clear hva_ hvn_ hvc_ ge654_6 ul654_6; have hv654_7 := hcc654 7 _ rfl; rw [add_field _ _ 7 (by omega)] at hv654_7; replace hv654_7 := Option.some.inj (hv654_7.symm.trans hx654_7); injection hv654_7 with hva_ hvn_ hvc_; rw [hva_] at ge654_7; rw [hvc_] at ul654_7; have HL654_7 := Aside0.mk (show Kd.V k36 36 _ w.heap.size _ _ ((rd_T36 t647 x6_2).f5) from Kd.V_mk ul654_7 ge654_7); clear hva_ hvn_ hvc_ ge654_7 ul654_7; clear hcc654 hce654; have HR654_5 := Aside0.mk hi654_5; have HC654_5 := Aside0.mk hl654_5; clear hi654_5 hl654_5; have HR654_6 := Aside0.mk hi654_6; have HC654_6 := Aside0.mk hl654_6; clear hi654_6 hl654_6; have HR654_7 := Aside0.mk hi654_7; have HC654_7 := Aside0.mk hl654_7; clear hi654_7 hl654_7; replace p654 := eq_true p654; replace q654 := eq_true q654) | (go_at_call 14; (with_reducible refine (impl_StmtsValid.calls k2 _ _ ((rd_T36 t647 x6_2).f5) false _ ?side1 ?side2 A17.out).mono ?_); (case side1 => repeat (first | exact ab40_ | (with_reducible refine Kd.C_alloc ?_ _) | (with_reducible refine Kd.C_drewN ?_ _) | (with_reducible refine Kd.C_drew ?_))); (case side2 => exact HC654_7.out); rintro e w22 ⟨rfl, hb⟩; have n0_ := Aside0.mk (Kd.N_below (aN_ HO_3.out) hb); have n1_ := Aside0.mk (Kd.V_below (by (with_reducible repeat (first | apply Kd.V_alloc | apply Kd.V_drewN | apply Kd.V_drew)); exact HL652_5.out) hb); have n2_ := Aside0.mk (Kd.V_below (by (with_reducible repeat (first | apply Kd.V_alloc | apply Kd.V_drewN | apply Kd.V_drew)); exact HL652_6.out) hb); have n3_ := Aside0.mk (Kd.V_below (by (with_reducible repeat (first | apply Kd.V_alloc | apply Kd.V_drewN | apply Kd.V_drew)); exact HL652_7.out) hb); have n4_ := Aside0.mk (Kd.V_below (by (with_reducible repeat (first | apply Kd.V_alloc | apply Kd.V_drewN | apply Kd.V_drew)); exact HL654_5.out) hb); have n5_ := Aside0.mk (Kd.V_below (by (with_reducible repeat (first | apply Kd.V_alloc | apply Kd.V_drewN | apply Kd.V_drew)); exact HL654_6.out) hb); have n6_ := Aside0.mk (Kd.V_below (by (with_reducible repeat (first | apply Kd.V_alloc | apply Kd.V_drewN | apply Kd.V_drew)); exact HL654_7.out) hb); have n7_ := Aside0.mk (Kd.C_below ab35_ hb); have n8_ := Aside0.mk (Kd.C_below ab23_ hb); have n9_ := Aside0.mk (Kd.C_below ab36_ hb); have n10_ := Aside0.mk (Kd.C_below ab57_ hb); have n11_ := Aside0.mk (Kd.C_below ab58_ hb); have n12_ := Aside0.mk (Kd.C_below ab40_ hb); have n13_ := Aside0.mk (below_step ab1_ hb); clear HO_3; clear HL652_5; clear HL652_6; clear HL652_7; clear HL654_5; clear HL654_6; clear HL654_7; clear HR652_5; clear HR652_6; clear HR652_7; clear HR654_5; clear HR654_6; clear HR654_7; clear HB; have HO_3 := n0_; have HL652_5 := n1_; have HL652_6 := n2_; have HL652_7 := n3_; have HL654_5 := n4_; have HL654_6 := n5_; have HL654_7 := n6_; have HR652_5 := n7_; have HR652_6 := n8_; have HR652_7 := n9_; have HR654_5 := n10_; have HR654_6 := n11_; have HR654_7 := n12_; have HB := n13_; clear n0_ n1_ n2_ n3_ n4_ n5_ n6_ n7_ n8_ n9_ n10_ n11_ n12_ n13_; (try clear hb); (try clear hb2); (try clear hk); (try clear hi)))
                      go_ret
                      exact ⟨by first | rfl | (simp [errW_none, errW_some] <;> rfl) | (simp [*, errW_none, errW_some] <;> rfl), ab1_⟩
                  · replace c16 := Bool.eq_false_iff.mpr c16
                    subst c16
                    have H1 : (some false) = some r := by rw [if_neg (show ¬ (false = true) by decide)] at H; exact H
                    clear H
                    have H := H1
                    clear H1
                    obtain rfl := Option.some.inj H
                    have p652 : 0 ≤ (x6_2 : Int) := of_decide_eq_true (by first | (with_reducible assumption) | assumption)
                    have q652 : x6_2 < (t647.length : Int) := of_decide_eq_true (by first | (with_reducible assumption) | assumption)
                    obtain ⟨ad652, A652_5, c652_5, A652_6, c652_6, A652_7, c652_7, e652, hx652_0, hx652_1, hx652_2, hx652_3, hx652_4, hx652_5, hx652_6, hx652_7, hl652_5, hi652_5, hl652_6, hi652_6, hl652_7, hi652_7⟩ := at_T36 (Kd.N_reads' HO_3.out).2.2 x6_2 p652 q652
                    cases e652
                    obtain ⟨ce652, hce652, hMe652, hcc652⟩ := Kd.N_get HO_3.out z36 x6_2 p652 (by first | exact q652 | exact of_decide_eq_true (by first | (with_reducible assumption) | assumption) | (have e_ := (Kd.N_reads' HO_3.out).1; omega))
                    obtain ⟨ua652_5, uc652_5, ua652_6, uc652_6, ua652_7, uc652_7, rfl, ul652_5, ge652_5, ul652_6, ge652_6, ul652_7, ge652_7⟩ := k36_openF hMe652
                    have hv652_5 := hcc652 5 _ rfl
                    rw [add_field _ _ 5 (by omega)] at hv652_5
                    replace hv652_5 := Option.some.inj (hv652_5.symm.trans hx652_5)
                    injection hv652_5 with hva_ hvn_ hvc_
                    rw [hva_] at ge652_5
                    rw [hvc_] at ul652_5
                    have HL652_5 := Aside0.mk (show Kd.V k34 34 _ w.heap.size _ _ ((rd_T36 t647 x6_2).f3.f2) from Kd.V_mk ul652_5 ge652_5)
                    clear hva_ hvn_ hvc_ ge652_5 ul652_5
                    have hv652_6 := hcc652 6 _ rfl
                    rw [add_field _ _ 6 (by omega)] at hv652_6
                    replace hv652_6 := Option.some.inj (hv652_6.symm.trans hx652_6)
                    injection hv652_6 with hva_ hvn_ hvc_
                    rw [hva_] at ge652_6
                    rw [hvc_] at ul652_6
                    have HL652_6 := Aside0.mk (show Kd.V k36 36 _ w.heap.size _ _ ((rd_T36 t647 x6_2).f4) from Kd.V_mk ul652_6 ge652_6)
                    clear hva_ hvn_ hvc_ ge652_6 ul652_6
                    have hv652_7 := hcc652 7 _ rfl
                    rw [add_field _ _ 7 (by omega)] at hv652_7
                    replace hv652_7 := Option.some.inj (hv652_7.symm.trans hx652_7)
                    injection hv652_7 with hva_ hvn_ hvc_
                    rw [hva_] at ge652_7
                    rw [hvc_] at ul652_7
                    have HL652_7 := Aside0.mk (show Kd.V k36 36 _ w.heap.size _ _ ((rd_T36 t647 x6_2).f5) from Kd.V_mk ul652_7 ge652_7)
                    clear hva_ hvn_ hvc_ ge652_7 ul652_7
                    clear hcc652 hce652
                    have HR652_5 := Aside0.mk hi652_5
                    have HC652_5 := Aside0.mk hl652_5
                    clear hi652_5 hl652_5
                    have HR652_6 := Aside0.mk hi652_6
                    have HC652_6 := Aside0.mk hl652_6
                    clear hi652_6 hl652_6
                    have HR652_7 := Aside0.mk hi652_7
                    have HC652_7 := Aside0.mk hl652_7
                    clear hi652_7 hl652_7
                    replace p652 := eq_true p652
                    replace q652 := eq_true q652
                    go_wp2_with (first | ((with_reducible refine gate_callee (f := 14) rfl ?_); refine goesL_ (some 37) rfl rfl Try.func14 (by kernel_rfl) rfl #[.slice A652_6 ((rd_T36 t647 x6_2).f4).length c652_6] rfl ab2_ ?_; (with_reducible refine (impl_StmtsValid.calls k2 _ _ ((rd_T36 t647 x6_2).f4) false _ ?side1 ?side2 A15.out).mono ?_); (case side1 => repeat (first | exact ab23_ | (with_reducible refine Kd.C_alloc ?_ _) | (with_reducible refine Kd.C_drewN ?_ _) | (with_reducible refine Kd.C_drew ?_))); (case side2 => exact HC652_6.out); rintro e w23 ⟨rfl, hb⟩; refine ⟨_, rfl, ?_⟩; have n0_ := Aside0.mk (Kd.N_below (aN_ HO_3.out) hb); have n1_ := Aside0.mk (Kd.V_below (by (with_reducible repeat (first | apply Kd.V_alloc | apply Kd.V_drewN | apply Kd.V_drew)); exact HL652_5.out) hb); have n2_ := Aside0.mk (Kd.V_below (by (with_reducible repeat (first | apply Kd.V_alloc | apply Kd.V_drewN | apply Kd.V_drew)); exact HL652_6.out) hb); have n3_ := Aside0.mk (Kd.V_below (by (with_reducible repeat (first | apply Kd.V_alloc | apply Kd.V_drewN | apply Kd.V_drew)); exact HL652_7.out) hb); have n4_ := Aside0.mk (Kd.C_below ab35_ hb); have n5_ := Aside0.mk (Kd.C_below ab23_ hb); have n6_ := Aside0.mk (Kd.C_below ab36_ hb); have n7_ := Aside0.mk (below_step ab1_ hb); clear HO_3; clear HL652_5; clear HL652_6; clear HL652_7; clear HR652_5; clear HR652_6; clear HR652_7; clear HB; have HO_3 := n0_; have HL652_5 := n1_; have HL652_6 := n2_; have HL652_7 := n3_; have HR652_5 := n4_; have HR652_6 := n5_; have HR652_7 := n6_; have HB := n7_; clear n0_ n1_ n2_ n3_ n4_ n5_ n6_ n7_; (try clear hb); (try clear hb2); (try clear hk); (try clear hi)))
                    go_ret
                    exact ⟨by first | rfl | (simp [errW_none, errW_some] <;> rfl) | (simp [*, errW_none, errW_some] <;> rfl), ab1_⟩
                · rw [if_neg c14] at H
                  exact absurd H (by simp)
              · rw [if_neg c13] at H
                have c13b0 : decide (x6_2 < (t647.length : Int)) = false := decide_eq_false c13
                clear c13
                obtain rfl := Option.some.inj H
                go_wp2
                go_ret
                exact ⟨by first | rfl | (simp [errW_none, errW_some] <;> rfl) | (simp [*, errW_none, errW_some] <;> rfl), ab1_⟩

/-- THE ONE PURE STATEMENT of laws_FnStmtsBlocks: yours. -/
def laws_FnStmtsBlocks.Pure : Prop := ∀ (l0 : List Int), l0.length ≤ maxLen → l0.length * 1 ≤ 140737488351232 → (∀ x ∈ l0, (Lit.int .u8 x).wf = true) → ∃ k, laws_FnStmtsBlocks.f k l0 = some true
theorem laws_FnStmtsBlocks.walk (P : laws_FnStmtsBlocks.Pure) (a0 : Option Addr) (len0 cap0 : Nat) (z0 : List Int) (w : World) (w0 : (a0 = none ∧ len0 = 0 ∧ cap0 = 0 ∧ z0 = []) ∨ ∃ x, a0 = some x ∧ len0 ≤ cap0 ∧ cap0 ≤ maxLen ∧ z0.length = cap0 ∧ (∀ i, i < z0.length → w.cell? (x.add i) = some (.int .u8 (z0.getD i 0))) ∧ ∀ n ∈ z0, (Lit.int .u8 n).wf = true) (y0 : len0 * 1 ≤ 140737488351232) :
    Calls Try.prog 5 #[.slice a0 len0 cap0] w fun e w' => e = .returned (.bool true) ∧ Below w.heap.size w w' := by
  obtain ⟨l0, rfl, hr0, hm0, hw0, hc0⟩ := ReadsInt.ofRowC w0
  obtain ⟨k, h⟩ := P l0 hm0 y0 hw0
  refine (laws_FnStmtsBlocks.calls k _ _ l0 true w (Kd.C_of_reads (d := (0 : Int)) (h1 := fun _ => rfl) hr0) hc0 h).mono ?_
  rintro e w' ⟨rfl, hd⟩
  exact ⟨rfl, hd⟩

end Go.Proofs.Ytpifdlpieglhlaa.PA

-- made by a program of this session (wip/myprint.py over the kit's print)
import Derived.Test.YtpifdlpieglhlaaV
import Derived.Test.YtpifdlpieglhlaaPAx0
import Derived.Test.YtpifdlpieglhlaaPAx1
import Derived.Test.YtpifdlpieglhlaaPAx23
import Derived.Test.YtpifdlpieglhlaaPAx36
import Derived.Test.YtpifdlpieglhlaaPAx64
import Derived.Test.YtpifdlpieglhlaaPAx67
namespace Go.Proofs.Ytpifdlpieglhlaa.PA
open Go.RowKit Go.Proofs.YtpifdlpieglhlaaW.PrintWords Go.Proofs.YtpifdlpieglhlaaW.PrintLast Go.Proofs.YtpifdlpieglhlaaW.PrintMore
attribute [local go_sem] max2_int min2_int max_two min_two max_three min_three max_four min_four   -- for this text's walks alone
set_option linter.unusedVariables false
set_option linter.unusedSimpArgs false

/-! ### laws_FnStmtsMany: function 6 -/
theorem laws_FnStmtsMany.mono_l : ∀ k, (∀ y0 y1 y2 y3, LeO (laws_FnStmtsMany.j0 k y0 y1 y2 y3) (laws_FnStmtsMany.j0 (k + 1) y0 y1 y2 y3))
  | 0 => fun _ _ _ _ r h => by simp [laws_FnStmtsMany.j0] at h
  | k + 1 => by
    have ih0 := laws_FnStmtsMany.mono_l k
    · intro y0 y1 y2 y3
      unfold laws_FnStmtsMany.j0
      repeat' first
      | (with_reducible exact ih0 _ _ _ _)
      | (with_reducible exact impl_StmtsValid.mono _ _)
      | (with_reducible exact laws_yields.mono _ _)
      | (with_reducible exact spec_DrawStmtsValid.mono _ _)
      | (with_reducible exact spec_StmtsValid.mono _ _)
      | (with_reducible exact LeO.refl _)
      | (with_reducible exact LeO.none _)
      | (with_reducible refine LeO.ite ?_ ?_)
      | (with_reducible refine LeO.bind ?_ (fun _ => ?_))
      | exact ih0 _ _ _ _
      | exact impl_StmtsValid.mono _ _
      | exact laws_yields.mono _ _
      | exact spec_DrawStmtsValid.mono _ _
      | exact spec_StmtsValid.mono _ _
      | exact LeO.none _
      | refine LeO.ite ?_ ?_
      | refine LeO.bind ?_ (fun _ => ?_)
theorem laws_FnStmtsMany.mono : ∀ a0 k, LeO (laws_FnStmtsMany.f k a0) (laws_FnStmtsMany.f (k + 1) a0) := by
  intro a0 k
  have ih0 := laws_FnStmtsMany.mono_l k
  unfold laws_FnStmtsMany.f
  repeat' first
      | (with_reducible exact ih0 _ _ _ _)
      | (with_reducible exact impl_StmtsValid.mono _ _)
      | (with_reducible exact laws_yields.mono _ _)
      | (with_reducible exact spec_DrawStmtsValid.mono _ _)
      | (with_reducible exact spec_StmtsValid.mono _ _)
      | (with_reducible exact LeO.refl _)
      | (with_reducible exact LeO.none _)
      | (with_reducible refine LeO.ite ?_ ?_)
      | (with_reducible refine LeO.bind ?_ (fun _ => ?_))
      | exact ih0 _ _ _ _
      | exact impl_StmtsValid.mono _ _
      | exact laws_yields.mono _ _
      | exact spec_DrawStmtsValid.mono _ _
      | exact spec_StmtsValid.mono _ _
      | exact LeO.none _
      | refine LeO.ite ?_ ?_
      | refine LeO.bind ?_ (fun _ => ?_)
set_option maxHeartbeats 8000000 in
set_option maxRecDepth 100000 in
theorem laws_FnStmtsMany.calls (k : Nat) (A0 : Option Addr) (c0 : Nat) (l0 : List Int) (r : Bool) (w : World) (hr0 : Kd.C (Kd.int .u8) w A0 l0.length l0) (hc0 : l0.length ≤ c0) (h : laws_FnStmtsMany.f k l0 = some r) :
    Calls Try.prog 6 #[.slice A0 l0.length c0] w fun e w' => e = .returned (.bool r) ∧ Below w.heap.size w w' := by
  have hu36 := Try.underlying36
  have HR0 := Aside0.mk hr0
  have HC0 := Aside0.mk hc0
  clear hr0 hc0
  have HB := Aside0.mk (Below.refl w.heap.size w)
  have H : (if (l0.length : Int) > 1048576 then (some true) else ((spec_DrawStmtsValid.f k l0).bind fun t662 => ((impl_StmtsValid.f k t662).bind fun t665 => ((spec_StmtsValid.f k t662).bind fun t666 => (if (t665 != t666) = true then (laws_FnStmtsMany.j0 k t662 t665 t666 true) else (laws_FnStmtsMany.j0 k t662 t665 t666 (!t665))))))) = some r := h
  clear h
  by_cases c2 : (l0.length : Int) > 1048576
  · rw [if_pos c2] at H
    have c2b0 : decide (1048576 < (l0.length : Int)) = true := decide_eq_true c2
    have c2b1 : decide (1048576 < l0.length) = true := decide_eq_true (by omega)
    clear c2
    obtain rfl := Option.some.inj H
    go_enter Try.func6, Try.ntmps6
    go_wp2
    go_ret
    exact ⟨by first | rfl | (simp [errW_none, errW_some] <;> rfl) | (simp [*, errW_none, errW_some] <;> rfl), ab1_⟩
  · rw [if_neg c2] at H
    have c2b0 : decide (1048576 < (l0.length : Int)) = false := decide_eq_false c2
    have c2b1 : decide (1048576 < l0.length) = false := decide_eq_false (by omega)
    clear c2
    replace H := Option.bind_eq_some_iff.mp H
    obtain ⟨t662, A30, H⟩ := H
    replace H : ((impl_StmtsValid.f k t662).bind fun t665 => ((spec_StmtsValid.f k t662).bind fun t666 => (if (t665 != t666) = true then (laws_FnStmtsMany.j0 k t662 t665 t666 true) else (laws_FnStmtsMany.j0 k t662 t665 t666 (!t665))))) = some r := H
    have A3 := Aside0.mk A30
    clear A30
    replace H := Option.bind_eq_some_iff.mp H
    obtain ⟨t665, A40, H⟩ := H
    replace H : ((spec_StmtsValid.f k t662).bind fun t666 => (if (t665 != t666) = true then (laws_FnStmtsMany.j0 k t662 t665 t666 true) else (laws_FnStmtsMany.j0 k t662 t665 t666 (!t665)))) = some r := H
    have A4 := Aside0.mk A40
    clear A40
    replace H := Option.bind_eq_some_iff.mp H
    obtain ⟨t666, A50, H⟩ := H
    replace H : (if (t665 != t666) = true then (laws_FnStmtsMany.j0 k t662 t665 t666 true) else (laws_FnStmtsMany.j0 k t662 t665 t666 (!t665))) = some r := H
    have A5 := Aside0.mk A50
    clear A50
    have HC6 := Aside0.mk H
    clear H
    go_enter Try.func6, Try.ntmps6
    go_upto_region 6 with (first | ((with_reducible refine gate_callee (f := 16) rfl ?_); refine goesL_ (some 12) rfl rfl Try.func16 (by kernel_rfl) rfl #[.slice A0 l0.length c0] rfl ab2_ ?_; (with_reducible refine (spec_DrawStmtsValid.calls k _ _ l0 t662 _ ?side1 ?side2 A3.out).mono ?_); (case side1 => repeat (first | exact HR0.out | (with_reducible refine Kd.C_alloc ?_ _) | (with_reducible refine Kd.C_drewN ?_ _) | (with_reducible refine Kd.C_drew ?_))); (case side2 => exact HC0.out); rintro e w7 ⟨v663, rfl, ho0, hb⟩; refine ⟨_, rfl, ?_⟩; have n0_ := Aside0.mk (Kd.N_lower (Kd.N_mono (ok' := fun k_ => True) ho0 (fun k_ hk_ => trivial)) (below_size ab1_)); have n1_ := Aside0.mk (below_step ab1_ hb); clear HB; have HO664 := n0_; have HB := n1_; clear n0_ n1_; (try clear hb); (try clear hb2); (try clear hk); (try clear hi); (try clear ho0); obtain ⟨Ao8, co8, eo8⟩ := Kd.N_slice HO664.out; subst eo8) | ((with_reducible refine gate_callee (f := 14) rfl ?_); refine goesL_ (some 14) rfl rfl Try.func14 (by kernel_rfl) rfl #[.slice Ao8 t662.length co8] rfl ab2_ ?_; (with_reducible refine (impl_StmtsValid.calls k _ _ t662 t665 _ ?side1 ?side2 A4.out).mono ?_); (case side1 => repeat (first | exact (Kd.N_reads' HO664.out).2.2 | (with_reducible refine Kd.C_alloc ?_ _) | (with_reducible refine Kd.C_drewN ?_ _) | (with_reducible refine Kd.C_drew ?_))); (case side2 => exact (Kd.N_reads' HO664.out).2.1); rintro e w9 ⟨rfl, hb⟩; refine ⟨_, rfl, ?_⟩; have n0_ := Aside0.mk (Kd.N_below (aN_ HO664.out) hb); have n1_ := Aside0.mk (below_step ab1_ hb); clear HO664; clear HB; have HO664 := n0_; have HB := n1_; clear n0_ n1_; (try clear hb); (try clear hb2); (try clear hk); (try clear hi)) | ((with_reducible refine gate_callee (f := 12) rfl ?_); refine goesL_ (some 16) rfl rfl Try.func12 (by kernel_rfl) rfl #[.slice Ao8 t662.length co8] rfl ab2_ ?_; (with_reducible refine (spec_StmtsValid.calls k _ _ t662 t666 _ ?side1 ?side2 A5.out).mono ?_); (case side1 => repeat (first | exact (Kd.N_reads' HO664.out).2.2 | (with_reducible refine Kd.C_alloc ?_ _) | (with_reducible refine Kd.C_drewN ?_ _) | (with_reducible refine Kd.C_drew ?_))); (case side2 => exact (Kd.N_reads' HO664.out).2.1); rintro e w10 ⟨rfl, hb⟩; refine ⟨_, rfl, ?_⟩; have n0_ := Aside0.mk (Kd.N_below (aN_ HO664.out) hb); have n1_ := Aside0.mk (below_step ab1_ hb); clear HO664; clear HB; have HO664 := n0_; have HB := n1_; clear n0_ n1_; (try clear hb); (try clear hb2); (try clear hk); (try clear hi)))
    (try simp only [Act.put, List.setIfInBounds_toArray, List.set_cons_zero, List.set_cons_succ])
    go_cut [23] (fun v23 wc => ∃ (kq : Nat) (x23_5 : Bool), v23 = .bool x23_5 ∧ Aside0 (laws_FnStmtsMany.j0 kq t662 t665 t666 x23_5 = some r) ∧ Aside0 (kq ≤ k) ∧ Aside0 (Kd.N k36 36 wc w.heap.size (fun _ => True) (.slice Ao8 t662.length co8) t662) ∧ Aside0 (Below w.heap.size w wc))
    case first =>
      have H := HC6.out
      clear HC6
      by_cases c11 : (t665 != t666) = true
      · rw [if_pos c11] at H
        have c11b0 : (t665 != t666) = true := c11
        (try (have c11b1 : decide (t665 = t666) = false := by simpa using c11))
        (try (have c11b2 : (t665 == t666) = false := by simpa using c11))
        (try (have c11b3 : ¬ (t665 = t666) := by simpa using c11))
        clear c11
        (first | rw [c11b0] | (simp only [i64_w, i32_w]; rw [c11b0]) | skip)
        have H' := Aside0.mk H
        clear H
        go_wp2
        go_meet
        case rel => exact ⟨_, (true), (by first | rfl | (simp; done) | (simp [*]; done)), H', ⟨by first | omega | exact Nat.le_refl _⟩, ⟨by (with_reducible repeat (first | apply Kd.N_alloc | apply Kd.N_drewN | apply Kd.N_drew)); exact HO664.out⟩, ⟨ab1_⟩⟩
      · rw [if_neg c11] at H
        have c11b0 : (t665 != t666) = false := by simpa using c11
        (try (have c11b1 : decide (t665 = t666) = true := by simpa using c11))
        (try (have c11b2 : (t665 == t666) = true := by simpa using c11))
        clear c11
        (first | rw [c11b0] | (simp only [i64_w, i32_w]; rw [c11b0]) | skip)
        have H' := Aside0.mk H
        clear H
        go_wp2
        go_meet
        case rel => exact ⟨_, (!t665), (by first | rfl | (simp; done) | (simp [*]; done)), H', ⟨by first | omega | exact Nat.le_refl _⟩, ⟨by (with_reducible repeat (first | apply Kd.N_alloc | apply Kd.N_drewN | apply Kd.N_drew)); exact HO664.out⟩, ⟨ab1_⟩⟩
    case rest =>
      clear HC6
      try clear c1
      try clear c2
      try clear c2b0
      try clear c2b1
      try clear p2
      try clear c6
      try clear c11
      try clear c11b0
      try clear c11b1
      try clear c11b2
      obtain ⟨kq, x23_5, rfl, HA, HJ5, HO_3, HB⟩ := hcut
      cases kq with
      | zero => exact absurd HA.out (by simp [laws_FnStmtsMany.j0])
      | succ kj5 =>
        have H := HA.out
        clear HA
        simp only [laws_FnStmtsMany.j0] at H
        by_cases c12 : x23_5 = true
        · subst c12
          have H1 : (some (t665 == t666)) = some r := by rw [if_pos rfl] at H; exact H
          clear H
          have H := H1
          clear H1
          obtain rfl := Option.some.inj H
          go_wp2
          go_ret
          exact ⟨by first | rfl | (simp [errW_none, errW_some] <;> rfl) | (simp [*, errW_none, errW_some] <;> rfl), ab1_⟩
        · replace c12 := Bool.eq_false_iff.mpr c12
          subst c12
          have H1 : ((some (([] : List (S36)) : List (S36))).bind fun y667 => (if y667.length + t662.length < 1256584717458 then ((some (y667 ++ t662 : List (S36))).bind fun y670 => ((laws_yields.f kj5 17).bind fun t673 => (if y670.length + t673.length < 1256584717458 then ((some (([] : List (S36)) : List (S36))).bind fun y679 => (if y679.length + t662.length < 1256584717458 then ((some (y679 ++ t662 : List (S36))).bind fun y682 => (if y682.length < 1256584717458 then ((impl_StmtsValid.f kj5 (y670 ++ t673)).bind fun t688 => (if t688 = true then (some false) else ((impl_StmtsValid.f kj5 (y682 ++ [(⟨0, 0, 0, (⟨0, 0, ([] : List (S34))⟩ : S34), ([] : List (S36)), ([] : List (S36))⟩ : S36)])).bind fun t689 => (some (!t689))))) else (none))) else (none))) else (none)))) else (none))) = some r := by rw [if_neg (show ¬ (false = true) by decide)] at H; exact H
          clear H
          have H := H1
          clear H1
          obtain ⟨y667, hy667⟩ : ∃ y_ : List (S36), y_ = (([] : List (S36))) := ⟨_, rfl⟩
          replace H : (if y667.length + t662.length < 1256584717458 then ((some (y667 ++ t662 : List (S36))).bind fun y670 => ((laws_yields.f kj5 17).bind fun t673 => (if y670.length + t673.length < 1256584717458 then ((some (([] : List (S36)) : List (S36))).bind fun y679 => (if y679.length + t662.length < 1256584717458 then ((some (y679 ++ t662 : List (S36))).bind fun y682 => (if y682.length < 1256584717458 then ((impl_StmtsValid.f kj5 (y670 ++ t673)).bind fun t688 => (if t688 = true then (some false) else ((impl_StmtsValid.f kj5 (y682 ++ [(⟨0, 0, 0, (⟨0, 0, ([] : List (S34))⟩ : S34), ([] : List (S36)), ([] : List (S36))⟩ : S36)])).bind fun t689 => (some (!t689))))) else (none))) else (none))) else (none)))) else (none)) = some r := by first | (rw [hy667]; with_reducible exact H) | (have H2_ := (Option.bind_some _ _).symm.trans H; rw [hy667]; with_reducible exact H2_) | (have H2_ := (Option.bind_some _ _).symm.trans H; with_reducible exact H2_) | with_reducible exact H | (rw [hy667]; exact H) | exact H
          have Ny667 := Aside0.mk hy667
          clear hy667
          by_cases c13 : y667.length + t662.length < 1256584717458
          · rw [if_pos c13] at H
            have LMc13 := Aside0.mk c13
            clear c13
            obtain ⟨y670, hy670⟩ : ∃ y_ : List (S36), y_ = (y667 ++ t662) := ⟨_, rfl⟩
            replace H : ((laws_yields.f kj5 17).bind fun t673 => (if y670.length + t673.length < 1256584717458 then ((some (([] : List (S36)) : List (S36))).bind fun y679 => (if y679.length + t662.length < 1256584717458 then ((some (y679 ++ t662 : List (S36))).bind fun y682 => (if y682.length < 1256584717458 then ((impl_StmtsValid.f kj5 (y670 ++ t673)).bind fun t688 => (if t688 = true then (some false) else ((impl_StmtsValid.f kj5 (y682 ++ [(⟨0, 0, 0, (⟨0, 0, ([] : List (S34))⟩ : S34), ([] : List (S36)), ([] : List (S36))⟩ : S36)])).bind fun t689 => (some (!t689))))) else (none))) else (none))) else (none))) = some r := by first | (rw [hy670]; with_reducible exact H) | (have H2_ := (Option.bind_some _ _).symm.trans H; rw [hy670]; with_reducible exact H2_) | (have H2_ := (Option.bind_some _ _).symm.trans H; with_reducible exact H2_) | with_reducible exact H | (rw [hy670]; exact H) | exact H
            have Ny670 := Aside0.mk hy670
            clear hy670
            replace H := Option.bind_eq_some_iff.mp H
            obtain ⟨t673, A140, H⟩ := H
            replace H : (if y670.length + t673.length < 1256584717458 then ((some (([] : List (S36)) : List (S36))).bind fun y679 => (if y679.length + t662.length < 1256584717458 then ((some (y679 ++ t662 : List (S36))).bind fun y682 => (if y682.length < 1256584717458 then ((impl_StmtsValid.f kj5 (y670 ++ t673)).bind fun t688 => (if t688 = true then (some false) else ((impl_StmtsValid.f kj5 (y682 ++ [(⟨0, 0, 0, (⟨0, 0, ([] : List (S34))⟩ : S34), ([] : List (S36)), ([] : List (S36))⟩ : S36)])).bind fun t689 => (some (!t689))))) else (none))) else (none))) else (none)) = some r := H
            have A14 := Aside0.mk A140
            clear A140
            by_cases c15 : y670.length + t673.length < 1256584717458
            · rw [if_pos c15] at H
              have LMc15 := Aside0.mk c15
              clear c15
              obtain ⟨y676, hy676⟩ : ∃ y_ : List (S36), y_ = (y670 ++ t673) := ⟨_, rfl⟩
              replace H : ((some (([] : List (S36)) : List (S36))).bind fun y679 => (if y679.length + t662.length < 1256584717458 then ((some (y679 ++ t662 : List (S36))).bind fun y682 => (if y682.length < 1256584717458 then ((impl_StmtsValid.f kj5 y676).bind fun t688 => (if t688 = true then (some false) else ((impl_StmtsValid.f kj5 (y682 ++ [(⟨0, 0, 0, (⟨0, 0, ([] : List (S34))⟩ : S34), ([] : List (S36)), ([] : List (S36))⟩ : S36)])).bind fun t689 => (some (!t689))))) else (none))) else (none))) = some r := by first | (rw [hy676]; with_reducible exact H) | (have H2_ := (Option.bind_some _ _).symm.trans H; rw [hy676]; with_reducible exact H2_) | (have H2_ := (Option.bind_some _ _).symm.trans H; with_reducible exact H2_) | with_reducible exact H | (rw [hy676]; exact H) | exact H
              have Ny676 := Aside0.mk hy676
              clear hy676
              obtain ⟨y679, hy679⟩ : ∃ y_ : List (S36), y_ = (([] : List (S36))) := ⟨_, rfl⟩
              replace H : (if y679.length + t662.length < 1256584717458 then ((some (y679 ++ t662 : List (S36))).bind fun y682 => (if y682.length < 1256584717458 then ((impl_StmtsValid.f kj5 y676).bind fun t688 => (if t688 = true then (some false) else ((impl_StmtsValid.f kj5 (y682 ++ [(⟨0, 0, 0, (⟨0, 0, ([] : List (S34))⟩ : S34), ([] : List (S36)), ([] : List (S36))⟩ : S36)])).bind fun t689 => (some (!t689))))) else (none))) else (none)) = some r := by first | (rw [hy679]; with_reducible exact H) | (have H2_ := (Option.bind_some _ _).symm.trans H; rw [hy679]; with_reducible exact H2_) | (have H2_ := (Option.bind_some _ _).symm.trans H; with_reducible exact H2_) | with_reducible exact H | (rw [hy679]; exact H) | exact H
              have Ny679 := Aside0.mk hy679
              clear hy679
              by_cases c16 : y679.length + t662.length < 1256584717458
              · rw [if_pos c16] at H
                have LMc16 := Aside0.mk c16
                clear c16
                obtain ⟨y682, hy682⟩ : ∃ y_ : List (S36), y_ = (y679 ++ t662) := ⟨_, rfl⟩
                replace H : (if y682.length < 1256584717458 then ((impl_StmtsValid.f kj5 y676).bind fun t688 => (if t688 = true then (some false) else ((impl_StmtsValid.f kj5 (y682 ++ [(⟨0, 0, 0, (⟨0, 0, ([] : List (S34))⟩ : S34), ([] : List (S36)), ([] : List (S36))⟩ : S36)])).bind fun t689 => (some (!t689))))) else (none)) = some r := by first | (rw [hy682]; with_reducible exact H) | (have H2_ := (Option.bind_some _ _).symm.trans H; rw [hy682]; with_reducible exact H2_) | (have H2_ := (Option.bind_some _ _).symm.trans H; with_reducible exact H2_) | with_reducible exact H | (rw [hy682]; exact H) | exact H
                have Ny682 := Aside0.mk hy682
                clear hy682
                by_cases c17 : y682.length < 1256584717458
                · rw [if_pos c17] at H
                  have LMc17 := Aside0.mk c17
                  clear c17
                  obtain ⟨y685, hy685⟩ : ∃ y_ : List (S36), y_ = (y682 ++ [(⟨0, 0, 0, (⟨0, 0, ([] : List (S34))⟩ : S34), ([] : List (S36)), ([] : List (S36))⟩ : S36)]) := ⟨_, rfl⟩
                  replace H : ((impl_StmtsValid.f kj5 y676).bind fun t688 => (if t688 = true then (some false) else ((impl_StmtsValid.f kj5 y685).bind fun t689 => (some (!t689))))) = some r := by first | (rw [hy685]; with_reducible exact H) | (have H2_ := (Option.bind_some _ _).symm.trans H; rw [hy685]; with_reducible exact H2_) | (have H2_ := (Option.bind_some _ _).symm.trans H; with_reducible exact H2_) | with_reducible exact H | (rw [hy685]; exact H) | exact H
                  have Ny685 := Aside0.mk hy685
                  clear hy685
                  replace H := Option.bind_eq_some_iff.mp H
                  obtain ⟨t688, A180, H⟩ := H
                  replace H : (if t688 = true then (some false) else ((impl_StmtsValid.f kj5 y685).bind fun t689 => (some (!t689)))) = some r := H
                  have A18 := Aside0.mk A180
                  clear A180
                  by_cases c19 : t688 = true
                  · subst c19
                    have H1 : (some false) = some r := by rw [if_pos rfl] at H; exact H
                    clear H
                    have H := H1
                    clear H1
                    obtain rfl := Option.some.inj H
                    go_wp2_with (first | ((with_reducible refine gate_dst (N := 27) rfl ?_); refine Kd.N_lit k36 _ 36 ?hg (N' := 27) ?hd (xs := ([] : List (S36))) (inner := []) (ok := (fun k_ => some k_ ≠ (.slice Ao8 t662.length co8 : Value).ownBlock)) (okp := (fun k_ => some k_ ≠ (.slice Ao8 t662.length co8 : Value).ownBlock)) ?hr ?hp (fun _ hk => hk) ((show ∀ k_, wc.heap.size ≤ k_ → (fun k_ => some k_ ≠ (.slice Ao8 t662.length co8 : Value).ownBlock) k_ from fun k_ hk => Kd.fresh' (Kd.N_lt (aN_ HO_3.out)) k_ hk) _ (Nat.le_refl _)) (Below.refl _ _) (Nat.le_refl _) (by simp) ?_; (case hd => rfl); (case hg => rfl); (case hr => first | (go_simp; done) | (go_simp; rfl)); (case hp => exact (Reps.none _ _)); intro v668 w20 ho21 hb hg_ hnew_; clear hg_ hnew_; (first | rw [← Ny667.out] at ho21 | (simp only [Int.reduceToNat] at ho21; rw [← Ny667.out] at ho21)); have n0_ := Aside0.mk (Kd.N_elder' (aN_ HO_3.out) (Kd.N_base ho21) hb); have n1_ := Aside0.mk (Kd.N_lower ho21 (below_size ab1_)); have n2_ := Aside0.mk (below_step ab1_ hb); clear HO_3; clear HB; have HO_3 := n0_; have HO669 := n1_; have HB := n2_; clear n0_ n1_ n2_; clear hb ho21) | ((with_reducible refine gate_builtin (b := .append) (xs := #[.tmp 27, .tmp 28]) rfl ?_); at_builtin; refine Kd.N_append_rows k36 (w0 := w) w.heap.size rfl (.tmp 27) (.tmp 28) 25 36 (.agg #[(.int .i64 0), (.int .i64 0), (.int .i64 0), (.int .i64 0), (.int .i64 0), (.slice none 0 0), (.slice none 0 0), (.slice none 0 0)]) 112 rfl Try.underlying25 info36 rfl (by decide) (by omega) v668 y667 t662 _ _ _ (fun _ => True) (fun k_ => ((fun _ => True)) k_ ∧ some k_ ≠ (v668 : Value).ownBlock) rfl rfl ?aO ?aR (fun _ hk => hk) ?aF ?aB ?aS ?aL ?_; (case aR => exact (by skip; exact Kd.N_F (Kd.N_mono (ok' := (fun k_ => ((fun _ => True)) k_ ∧ some k_ ≠ (v668 : Value).ownBlock)) (HO_3.out) (fun k_ hk => ⟨trivial, hk.2⟩)))); (case aB => exact ab1_); (case aF => exact (fun _ _ => trivial)); (case aO => exact (by (with_reducible repeat (first | apply Kd.N_alloc | apply Kd.N_drewN | apply Kd.N_drew)); exact Kd.N_mono HO669.out (fun _ hk => trivial))); (case aS => exact (below_size ab1_)); (case aL => have := LMc13.out; omega); intro v671 w22 ho hb hg hat; rw [← Ny670.out] at ho; have n0_ := Aside0.mk (Kd.N_afterv (ok := (fun _ => True)) (aN_ HO_3.out) hg hat); have n1_ := Aside0.mk (hb); have n2_ := Aside0.mk (ho); clear HO_3; clear HB; clear HO669; have HO_3 := n0_; have HB := n1_; have HO672 := n2_; clear n0_ n1_ n2_; clear ho hb hg hat) | ((with_reducible refine gate_callee (f := 17) rfl ?_); refine goesL_ (some 30) rfl rfl Try.func17 (by kernel_rfl) rfl #[.int .i64 17] rfl ab2_ ?_; (with_reducible refine (laws_yields.calls kj5 17 t673 _ A14.out).mono ?_); rintro e w23 ⟨v674, rfl, ho0, hb⟩; refine ⟨_, rfl, ?_⟩; have n0_ := Aside0.mk (Kd.N_elder' (aN_ HO_3.out) (by first | exact Kd.N_base ho0 | exact Kd.N_base (Kd.R_N ho0)) hb); have n1_ := Aside0.mk (Kd.N_elder' (aN_ HO672.out) (by first | exact Kd.N_base ho0 | exact Kd.N_base (Kd.R_N ho0)) hb); have n2_ := Aside0.mk (Kd.N_lower (Kd.N_mono (ok' := fun k_ => some k_ ≠ (.slice Ao8 t662.length co8 : Value).ownBlock ∧ some k_ ≠ (v671 : Value).ownBlock) (Kd.R_N (Kd.R_bound ho0)) (fun k_ hk_ => ⟨(Kd.fresh' (Kd.N_lt (aN_ HO_3.out)) k_ hk_.2.1), (Kd.fresh' (Kd.N_lt (aN_ HO672.out)) k_ hk_.2.1)⟩)) (below_size ab1_)); have n3_ := Aside0.mk (below_step ab1_ hb); clear HO_3; clear HO672; clear HB; have HO_3 := n0_; have HO672 := n1_; have HO675 := n2_; have HB := n3_; clear n0_ n1_ n2_ n3_; (try clear hb); (try clear hb2); (try clear hk); (try clear hi); (try clear ho0); obtain ⟨Ao25, co25, eo25⟩ := Kd.N_slice HO675.out; subst eo25) | ((with_reducible refine gate_builtin (b := .append) (xs := #[.tmp 29, .tmp 30]) rfl ?_); at_builtin; refine Kd.N_append_rows k36 (w0 := w) w.heap.size rfl (.tmp 29) (.tmp 30) 25 36 (.agg #[(.int .i64 0), (.int .i64 0), (.int .i64 0), (.int .i64 0), (.int .i64 0), (.slice none 0 0), (.slice none 0 0), (.slice none 0 0)]) 112 rfl Try.underlying25 info36 rfl (by decide) (by omega) v671 y670 t673 _ _ _ (fun _ => True) (fun k_ => ((fun _ => True)) k_ ∧ some k_ ≠ (v671 : Value).ownBlock) rfl rfl ?aO ?aR (fun _ hk => hk) ?aF ?aB ?aS ?aL ?_; (case aR => exact (by skip; exact Kd.N_F (Kd.N_mono (ok' := (fun k_ => ((fun _ => True)) k_ ∧ some k_ ≠ (v671 : Value).ownBlock)) (HO675.out) (fun k_ hk => ⟨trivial, hk.2⟩)))); (case aB => exact ab1_); (case aF => exact (fun _ _ => trivial)); (case aO => exact (by (with_reducible repeat (first | apply Kd.N_alloc | apply Kd.N_drewN | apply Kd.N_drew)); exact Kd.N_mono HO672.out (fun _ hk => trivial))); (case aS => exact (below_size ab1_)); (case aL => have := LMc15.out; omega); intro v677 w24 ho hb hg hat; rw [← Ny676.out] at ho; have n0_ := Aside0.mk (Kd.N_afterv (ok := (fun k_ => some k_ ≠ (.slice Ao25 t673.length co25 : Value).ownBlock)) (by (with_reducible repeat (first | apply Kd.N_alloc | apply Kd.N_drewN | apply Kd.N_drew)); exact Kd.N_mono HO_3.out (fun _ hk => ⟨hk.2, hk.1.2⟩)) hg hat); have n1_ := Aside0.mk (Kd.N_afterv (ok := (fun k_ => some k_ ≠ (.slice Ao8 t662.length co8 : Value).ownBlock)) (aN_ HO675.out) hg hat); have n2_ := Aside0.mk (hb); have n3_ := Aside0.mk (ho); clear HO_3; clear HO675; clear HB; clear HO672; have HO_3 := n0_; have HO675 := n1_; have HB := n2_; have HO678 := n3_; clear n0_ n1_ n2_ n3_; clear ho hb hg hat) | ((with_reducible refine gate_dst (N := 32) rfl ?_); refine Kd.N_lit k36 _ 36 ?hg (N' := 32) ?hd (xs := ([] : List (S36))) (inner := []) (ok := (fun k_ => some k_ ≠ (.slice Ao8 t662.length co8 : Value).ownBlock ∧ some k_ ≠ (.slice Ao25 t673.length co25 : Value).ownBlock ∧ some k_ ≠ (v677 : Value).ownBlock)) (okp := (fun k_ => some k_ ≠ (.slice Ao8 t662.length co8 : Value).ownBlock ∧ some k_ ≠ (.slice Ao25 t673.length co25 : Value).ownBlock ∧ some k_ ≠ (v677 : Value).ownBlock)) ?hr ?hp (fun _ hk => hk) ((show ∀ k_, w24.heap.size ≤ k_ → (fun k_ => some k_ ≠ (.slice Ao8 t662.length co8 : Value).ownBlock ∧ some k_ ≠ (.slice Ao25 t673.length co25 : Value).ownBlock ∧ some k_ ≠ (v677 : Value).ownBlock) k_ from fun k_ hk => ⟨Kd.fresh' (Kd.N_lt (aN_ HO_3.out)) k_ hk, Kd.fresh' (Kd.N_lt (aN_ HO675.out)) k_ hk, Kd.fresh' (Kd.N_lt (aN_ HO678.out)) k_ hk⟩) _ (Nat.le_refl _)) (Below.refl _ _) (Nat.le_refl _) (by simp) ?_; (case hd => rfl); (case hg => rfl); (case hr => first | (go_simp; done) | (go_simp; rfl)); (case hp => exact (Reps.none _ _)); intro v680 w26 ho27 hb hg_ hnew_; clear hg_ hnew_; (first | rw [← Ny679.out] at ho27 | (simp only [Int.reduceToNat] at ho27; rw [← Ny679.out] at ho27)); have n0_ := Aside0.mk (Kd.N_elder' (aN_ HO_3.out) (Kd.N_base ho27) hb); have n1_ := Aside0.mk (Kd.N_elder' (aN_ HO675.out) (Kd.N_base ho27) hb); have n2_ := Aside0.mk (Kd.N_elder' (aN_ HO678.out) (Kd.N_base ho27) hb); have n3_ := Aside0.mk (Kd.N_lower ho27 (below_size ab1_)); have n4_ := Aside0.mk (below_step ab1_ hb); clear HO_3; clear HO675; clear HO678; clear HB; have HO_3 := n0_; have HO675 := n1_; have HO678 := n2_; have HO681 := n3_; have HB := n4_; clear n0_ n1_ n2_ n3_ n4_; clear hb ho27) | ((with_reducible refine gate_builtin (b := .append) (xs := #[.tmp 32, .tmp 33]) rfl ?_); at_builtin; refine Kd.N_append_rows k36 (w0 := w) w.heap.size rfl (.tmp 32) (.tmp 33) 25 36 (.agg #[(.int .i64 0), (.int .i64 0), (.int .i64 0), (.int .i64 0), (.int .i64 0), (.slice none 0 0), (.slice none 0 0), (.slice none 0 0)]) 112 rfl Try.underlying25 info36 rfl (by decide) (by omega) v680 y679 t662 _ _ _ (fun k_ => some k_ ≠ (.slice Ao25 t673.length co25 : Value).ownBlock ∧ some k_ ≠ (v677 : Value).ownBlock) (fun k_ => ((fun k_ => some k_ ≠ (.slice Ao25 t673.length co25 : Value).ownBlock ∧ some k_ ≠ (v677 : Value).ownBlock)) k_ ∧ some k_ ≠ (v680 : Value).ownBlock) rfl rfl ?aO ?aR (fun _ hk => hk) ?aF ?aB ?aS ?aL ?_; (case aR => exact (by skip; exact Kd.N_F (Kd.N_mono (ok' := (fun k_ => ((fun k_ => some k_ ≠ (.slice Ao25 t673.length co25 : Value).ownBlock ∧ some k_ ≠ (v677 : Value).ownBlock)) k_ ∧ some k_ ≠ (v680 : Value).ownBlock)) (HO_3.out) (fun k_ hk => ⟨⟨hk.1.1, hk.1.2⟩, hk.2⟩)))); (case aB => exact ab1_); (case aF => exact (fun k_ hk => ⟨Kd.fresh' (Kd.N_lt (aN_ HO675.out)) k_ hk, Kd.fresh' (Kd.N_lt (aN_ HO678.out)) k_ hk⟩)); (case aO => exact (by (with_reducible repeat (first | apply Kd.N_alloc | apply Kd.N_drewN | apply Kd.N_drew)); exact Kd.N_mono HO681.out (fun _ hk => ⟨hk.2.1, hk.2.2⟩))); (case aS => exact (below_size ab1_)); (case aL => have := LMc16.out; omega); intro v683 w28 ho hb hg hat; rw [← Ny682.out] at ho; have n0_ := Aside0.mk (Kd.N_afterv (ok := (fun k_ => some k_ ≠ (.slice Ao25 t673.length co25 : Value).ownBlock ∧ some k_ ≠ (v677 : Value).ownBlock)) (aN_ HO_3.out) hg hat); have n1_ := Aside0.mk (Kd.N_afterv (ok := (fun k_ => some k_ ≠ (.slice Ao8 t662.length co8 : Value).ownBlock ∧ some k_ ≠ (v677 : Value).ownBlock)) (aN_ HO675.out) hg hat); have n2_ := Aside0.mk (Kd.N_afterv (ok := (fun _ => True)) (aN_ HO678.out) hg hat); have n3_ := Aside0.mk (hb); have n4_ := Aside0.mk (ho); clear HO_3; clear HO675; clear HO678; clear HB; clear HO681; have HO_3 := n0_; have HO675 := n1_; have HO678 := n2_; have HB := n3_; have HO684 := n4_; clear n0_ n1_ n2_ n3_ n4_; clear ho hb hg hat) | ((with_reducible refine gate_builtin (b := .append) (xs := #[.tmp 34, .tmp 36]) rfl ?_); at_builtin; refine Kd.N_append k36 (w0 := w) w.heap.size rfl (.tmp 34) (.tmp 36) 25 36 (.agg #[(.int .i64 0), (.int .i64 0), (.int .i64 0), (.int .i64 0), (.int .i64 0), (.slice none 0 0), (.slice none 0 0), (.slice none 0 0)]) 112 rfl Try.underlying25 info36 rfl (by decide) (by omega) v683 y682 (⟨0, 0, 0, (⟨0, 0, ([] : List (S34))⟩ : S34), ([] : List (S36)), ([] : List (S36))⟩ : S36) [.int .i64 0, .int .i64 0, .int .i64 0, .int .i64 0, .int .i64 0, .slice none 0 0, .slice none 0 0, .slice none 0 0] (fun k_ => some k_ ≠ (.slice Ao25 t673.length co25 : Value).ownBlock ∧ some k_ ≠ (v677 : Value).ownBlock) (fun k_ => ((fun k_ => some k_ ≠ (.slice Ao25 t673.length co25 : Value).ownBlock ∧ some k_ ≠ (v677 : Value).ownBlock)) k_ ∧ some k_ ≠ (v683 : Value).ownBlock) rfl rfl ?aP (fun _ hk => hk) ?aF ?aO ?aB ?aS ?aL ?_; (case aP => exact (k36_mkF _ _ (⟨0, 0, 0, (⟨0, 0, ([] : List (S34))⟩ : S34), ([] : List (S36)), ([] : List (S36))⟩ : S36) (Nat.le_refl _) (Kd.F_nil _ _ _) (Nat.le_refl _) (Kd.F_nil _ _ _) (Nat.le_refl _) (Kd.F_nil _ _ _))); (case aB => exact ab1_); (case aF => exact (fun k_ hk => ⟨Kd.fresh' (Kd.N_lt (aN_ HO675.out)) k_ hk, Kd.fresh' (Kd.N_lt (aN_ HO678.out)) k_ hk⟩)); (case aO => exact (aN_ HO684.out)); (case aS => exact (below_size ab1_)); (case aL => have := LMc17.out; omega); intro v686 w29 ho hb hg hat; rw [← Ny685.out] at ho; have n0_ := Aside0.mk (Kd.N_afterv (ok := (fun k_ => some k_ ≠ (.slice Ao25 t673.length co25 : Value).ownBlock ∧ some k_ ≠ (v677 : Value).ownBlock)) (aN_ HO_3.out) hg hat); have n1_ := Aside0.mk (Kd.N_afterv (ok := (fun k_ => some k_ ≠ (.slice Ao8 t662.length co8 : Value).ownBlock ∧ some k_ ≠ (v677 : Value).ownBlock)) (aN_ HO675.out) hg hat); have n2_ := Aside0.mk (Kd.N_afterv (ok := (fun _ => True)) (aN_ HO678.out) hg hat); have n3_ := Aside0.mk (hb); have n4_ := Aside0.mk (ho); clear HO_3; clear HO675; clear HO678; clear HB; clear HO684; have HO_3 := n0_; have HO675 := n1_; have HO678 := n2_; have HB := n3_; have HO687 := n4_; clear n0_ n1_ n2_ n3_ n4_; clear ho hb hg hat; obtain ⟨Ao30, co30, eo30⟩ := Kd.N_slice HO678.out; subst eo30) | ((with_reducible refine gate_callee (f := 14) rfl ?_); refine goesL_ (some 39) rfl rfl Try.func14 (by kernel_rfl) rfl #[.slice Ao30 y676.length co30] rfl ab2_ ?_; (with_reducible refine (impl_StmtsValid.calls kj5 _ _ y676 true _ ?side1 ?side2 A18.out).mono ?_); (case side1 => repeat (first | exact (Kd.N_reads' HO678.out).2.2 | (with_reducible refine Kd.C_alloc ?_ _) | (with_reducible refine Kd.C_drewN ?_ _) | (with_reducible refine Kd.C_drew ?_))); (case side2 => exact (Kd.N_reads' HO678.out).2.1); rintro e w31 ⟨rfl, hb⟩; refine ⟨_, rfl, ?_⟩; have n0_ := Aside0.mk (Kd.N_below (aN_ HO_3.out) hb); have n1_ := Aside0.mk (Kd.N_below (aN_ HO675.out) hb); have n2_ := Aside0.mk (Kd.N_below (aN_ HO678.out) hb); have n3_ := Aside0.mk (Kd.N_below (aN_ HO687.out) hb); have n4_ := Aside0.mk (below_step ab1_ hb); clear HO_3; clear HO675; clear HO678; clear HO687; clear HB; have HO_3 := n0_; have HO675 := n1_; have HO678 := n2_; have HO687 := n3_; have HB := n4_; clear n0_ n1_ n2_ n3_ n4_; (try clear hb); (try clear hb2); (try clear hk); (try clear hi)))
                    go_ret
                    exact ⟨by first | rfl | (simp [errW_none, errW_some] <;> rfl) | (simp [*, errW_none, errW_some] <;> rfl), ab1_⟩
                  · replace c19 := Bool.eq_false_iff.mpr c19
                    subst c19
                    have H1 : ((impl_StmtsValid.f kj5 y685).bind fun t689 => (some (!t689))) = some r := by rw [if_neg (show ¬ (false = true) by decide)] at H; exact H
                    clear H
                    have H := H1
                    clear H1
                    replace H := Option.bind_eq_some_iff.mp H
                    obtain ⟨t689, A320, H⟩ := H
                    replace H : (some (!t689)) = some r := H
                    have A32 := Aside0.mk A320
                    clear A320
                    obtain rfl := Option.some.inj H
                    go_wp2_with (first | ((with_reducible refine gate_dst (N := 27) rfl ?_); refine Kd.N_lit k36 _ 36 ?hg (N' := 27) ?hd (xs := ([] : List (S36))) (inner := []) (ok := (fun k_ => some k_ ≠ (.slice Ao8 t662.length co8 : Value).ownBlock)) (okp := (fun k_ => some k_ ≠ (.slice Ao8 t662.length co8 : Value).ownBlock)) ?hr ?hp (fun _ hk => hk) ((show ∀ k_, wc.heap.size ≤ k_ → (fun k_ => some k_ ≠ (.slice Ao8 t662.length co8 : Value).ownBlock) k_ from fun k_ hk => Kd.fresh' (Kd.N_lt (aN_ HO_3.out)) k_ hk) _ (Nat.le_refl _)) (Below.refl _ _) (Nat.le_refl _) (by simp) ?_; (case hd => rfl); (case hg => rfl); (case hr => first | (go_simp; done) | (go_simp; rfl)); (case hp => exact (Reps.none _ _)); intro v668 w33 ho34 hb hg_ hnew_; clear hg_ hnew_; (first | rw [← Ny667.out] at ho34 | (simp only [Int.reduceToNat] at ho34; rw [← Ny667.out] at ho34)); have n0_ := Aside0.mk (Kd.N_elder' (aN_ HO_3.out) (Kd.N_base ho34) hb); have n1_ := Aside0.mk (Kd.N_lower ho34 (below_size ab1_)); have n2_ := Aside0.mk (below_step ab1_ hb); clear HO_3; clear HB; have HO_3 := n0_; have HO669 := n1_; have HB := n2_; clear n0_ n1_ n2_; clear hb ho34) | ((with_reducible refine gate_builtin (b := .append) (xs := #[.tmp 27, .tmp 28]) rfl ?_); at_builtin; refine Kd.N_append_rows k36 (w0 := w) w.heap.size rfl (.tmp 27) (.tmp 28) 25 36 (.agg #[(.int .i64 0), (.int .i64 0), (.int .i64 0), (.int .i64 0), (.int .i64 0), (.slice none 0 0), (.slice none 0 0), (.slice none 0 0)]) 112 rfl Try.underlying25 info36 rfl (by decide) (by omega) v668 y667 t662 _ _ _ (fun _ => True) (fun k_ => ((fun _ => True)) k_ ∧ some k_ ≠ (v668 : Value).ownBlock) rfl rfl ?aO ?aR (fun _ hk => hk) ?aF ?aB ?aS ?aL ?_; (case aR => exact (by skip; exact Kd.N_F (Kd.N_mono (ok' := (fun k_ => ((fun _ => True)) k_ ∧ some k_ ≠ (v668 : Value).ownBlock)) (HO_3.out) (fun k_ hk => ⟨trivial, hk.2⟩)))); (case aB => exact ab1_); (case aF => exact (fun _ _ => trivial)); (case aO => exact (by (with_reducible repeat (first | apply Kd.N_alloc | apply Kd.N_drewN | apply Kd.N_drew)); exact Kd.N_mono HO669.out (fun _ hk => trivial))); (case aS => exact (below_size ab1_)); (case aL => have := LMc13.out; omega); intro v671 w35 ho hb hg hat; rw [← Ny670.out] at ho; have n0_ := Aside0.mk (Kd.N_afterv (ok := (fun _ => True)) (aN_ HO_3.out) hg hat); have n1_ := Aside0.mk (hb); have n2_ := Aside0.mk (ho); clear HO_3; clear HB; clear HO669; have HO_3 := n0_; have HB := n1_; have HO672 := n2_; clear n0_ n1_ n2_; clear ho hb hg hat) | ((with_reducible refine gate_callee (f := 17) rfl ?_); refine goesL_ (some 30) rfl rfl Try.func17 (by kernel_rfl) rfl #[.int .i64 17] rfl ab2_ ?_; (with_reducible refine (laws_yields.calls kj5 17 t673 _ A14.out).mono ?_); rintro e w36 ⟨v674, rfl, ho0, hb⟩; refine ⟨_, rfl, ?_⟩; have n0_ := Aside0.mk (Kd.N_elder' (aN_ HO_3.out) (by first | exact Kd.N_base ho0 | exact Kd.N_base (Kd.R_N ho0)) hb); have n1_ := Aside0.mk (Kd.N_elder' (aN_ HO672.out) (by first | exact Kd.N_base ho0 | exact Kd.N_base (Kd.R_N ho0)) hb); have n2_ := Aside0.mk (Kd.N_lower (Kd.N_mono (ok' := fun k_ => some k_ ≠ (.slice Ao8 t662.length co8 : Value).ownBlock ∧ some k_ ≠ (v671 : Value).ownBlock) (Kd.R_N (Kd.R_bound ho0)) (fun k_ hk_ => ⟨(Kd.fresh' (Kd.N_lt (aN_ HO_3.out)) k_ hk_.2.1), (Kd.fresh' (Kd.N_lt (aN_ HO672.out)) k_ hk_.2.1)⟩)) (below_size ab1_)); have n3_ := Aside0.mk (below_step ab1_ hb); clear HO_3; clear HO672; clear HB; have HO_3 := n0_; have HO672 := n1_; have HO675 := n2_; have HB := n3_; clear n0_ n1_ n2_ n3_; (try clear hb); (try clear hb2); (try clear hk); (try clear hi); (try clear ho0); obtain ⟨Ao38, co38, eo38⟩ := Kd.N_slice HO675.out; subst eo38) | ((with_reducible refine gate_builtin (b := .append) (xs := #[.tmp 29, .tmp 30]) rfl ?_); at_builtin; refine Kd.N_append_rows k36 (w0 := w) w.heap.size rfl (.tmp 29) (.tmp 30) 25 36 (.agg #[(.int .i64 0), (.int .i64 0), (.int .i64 0), (.int .i64 0), (.int .i64 0), (.slice none 0 0), (.slice none 0 0), (.slice none 0 0)]) 112 rfl Try.underlying25 info36 rfl (by decide) (by omega) v671 y670 t673 _ _ _ (fun _ => True) (fun k_ => ((fun _ => True)) k_ ∧ some k_ ≠ (v671 : Value).ownBlock) rfl rfl ?aO ?aR (fun _ hk => hk) ?aF ?aB ?aS ?aL ?_; (case aR => exact (by skip; exact Kd.N_F (Kd.N_mono (ok' := (fun k_ => ((fun _ => True)) k_ ∧ some k_ ≠ (v671 : Value).ownBlock)) (HO675.out) (fun k_ hk => ⟨trivial, hk.2⟩)))); (case aB => exact ab1_); (case aF => exact (fun _ _ => trivial)); (case aO => exact (by (with_reducible repeat (first | apply Kd.N_alloc | apply Kd.N_drewN | apply Kd.N_drew)); exact Kd.N_mono HO672.out (fun _ hk => trivial))); (case aS => exact (below_size ab1_)); (case aL => have := LMc15.out; omega); intro v677 w37 ho hb hg hat; rw [← Ny676.out] at ho; have n0_ := Aside0.mk (Kd.N_afterv (ok := (fun k_ => some k_ ≠ (.slice Ao38 t673.length co38 : Value).ownBlock)) (by (with_reducible repeat (first | apply Kd.N_alloc | apply Kd.N_drewN | apply Kd.N_drew)); exact Kd.N_mono HO_3.out (fun _ hk => ⟨hk.2, hk.1.2⟩)) hg hat); have n1_ := Aside0.mk (Kd.N_afterv (ok := (fun k_ => some k_ ≠ (.slice Ao8 t662.length co8 : Value).ownBlock)) (aN_ HO675.out) hg hat); have n2_ := Aside0.mk (hb); have n3_ := Aside0.mk (ho); clear HO_3; clear HO675; clear HB; clear HO672; have HO_3 := n0_; have HO675 := n1_; have HB := n2_; have HO678 := n3_; clear n0_ n1_ n2_ n3_; clear ho hb hg hat) | ((with_reducible refine gate_dst (N := 32) rfl ?_); refine Kd.N_lit k36 _ 36 ?hg (N' := 32) ?hd (xs := ([] : List (S36))) (inner := []) (ok := (fun k_ => some k_ ≠ (.slice Ao8 t662.length co8 : Value).ownBlock ∧ some k_ ≠ (.slice Ao38 t673.length co38 : Value).ownBlock ∧ some k_ ≠ (v677 : Value).ownBlock)) (okp := (fun k_ => some k_ ≠ (.slice Ao8 t662.length co8 : Value).ownBlock ∧ some k_ ≠ (.slice Ao38 t673.length co38 : Value).ownBlock ∧ some k_ ≠ (v677 : Value).ownBlock)) ?hr ?hp (fun _ hk => hk) ((show ∀ k_, w37.heap.size ≤ k_ → (fun k_ => some k_ ≠ (.slice Ao8 t662.length co8 : Value).ownBlock ∧ some k_ ≠ (.slice Ao38 t673.length co38 : Value).ownBlock ∧ some k_ ≠ (v677 : Value).ownBlock) k_ from fun k_ hk => ⟨Kd.fresh' (Kd.N_lt (aN_ HO_3.out)) k_ hk, Kd.fresh' (Kd.N_lt (aN_ HO675.out)) k_ hk, Kd.fresh' (Kd.N_lt (aN_ HO678.out)) k_ hk⟩) _ (Nat.le_refl _)) (Below.refl _ _) (Nat.le_refl _) (by simp) ?_; (case hd => rfl); (case hg => rfl); (case hr => first | (go_simp; done) | (go_simp; rfl)); (case hp => exact (Reps.none _ _)); intro v680 w39 ho40 hb hg_ hnew_; clear hg_ hnew_; (first | rw [← Ny679.out] at ho40 | (simp only [Int.reduceToNat] at ho40; rw [← Ny679.out] at ho40)); have n0_ := Aside0.mk (Kd.N_elder' (aN_ HO_3.out) (Kd.N_base ho40) hb); have n1_ := Aside0.mk (Kd.N_elder' (aN_ HO675.out) (Kd.N_base ho40) hb); have n2_ := Aside0.mk (Kd.N_elder' (aN_ HO678.out) (Kd.N_base ho40) hb); have n3_ := Aside0.mk (Kd.N_lower ho40 (below_size ab1_)); have n4_ := Aside0.mk (below_step ab1_ hb); clear HO_3; clear HO675; clear HO678; clear HB; have HO_3 := n0_; have HO675 := n1_; have HO678 := n2_; have HO681 := n3_; have HB := n4_; clear n0_ n1_ n2_ n3_ n4_; clear hb ho40) | ((with_reducible refine gate_builtin (b := .append) (xs := #[.tmp 32, .tmp 33]) rfl ?_); at_builtin; refine Kd.N_append_rows k36 (w0 := w) w.heap.size rfl (.tmp 32) (.tmp 33) 25 36 (.agg #[(.int .i64 0), (.int .i64 0), (.int .i64 0), (.int .i64 0), (.int .i64 0), (.slice none 0 0), (.slice none 0 0), (.slice none 0 0)]) 112 rfl Try.underlying25 info36 rfl (by decide) (by omega) v680 y679 t662 _ _ _ (fun k_ => some k_ ≠ (.slice Ao38 t673.length co38 : Value).ownBlock ∧ some k_ ≠ (v677 : Value).ownBlock) (fun k_ => ((fun k_ => some k_ ≠ (.slice Ao38 t673.length co38 : Value).ownBlock ∧ some k_ ≠ (v677 : Value).ownBlock)) k_ ∧ some k_ ≠ (v680 : Value).ownBlock) rfl rfl ?aO ?aR (fun _ hk => hk) ?aF ?aB ?aS ?aL ?_; (case aR => exact (by skip; exact Kd.N_F (Kd.N_mono (ok' := (fun k_ => ((fun k_ => some k_ ≠ (.slice Ao38 t673.length co38 : Value).ownBlock ∧ some k_ ≠ (v677 : Value).ownBlock)) k_ ∧ some k_ ≠ (v680 : Value).ownBlock)) (HO_3.out) (fun k_ hk => ⟨⟨hk.1.1, hk.1.2⟩, hk.2⟩)))); (case aB => exact ab1_); (case aF => exact (fun k_ hk => ⟨Kd.fresh' (Kd.N_lt (aN_ HO675.out)) k_ hk, Kd.fresh' (Kd.N_lt (aN_ HO678.out)) k_ hk⟩)); (case aO => exact (by (with_reducible repeat (first | apply Kd.N_alloc | apply Kd.N_drewN | apply Kd.N_drew)); exact Kd.N_mono HO681.out (fun _ hk => ⟨hk.2.1, hk.2.2⟩))); (case aS => exact (below_size ab1_)); (case aL => have := LMc16.out; omega); intro v683 w41 ho hb hg hat; rw [← Ny682.out] at ho; have n0_ := Aside0.mk (Kd.N_afterv (ok := (fun k_ => some k_ ≠ (.slice Ao38 t673.length co38 : Value).ownBlock ∧ some k_ ≠ (v677 : Value).ownBlock)) (aN_ HO_3.out) hg hat); have n1_ := Aside0.mk (Kd.N_afterv (ok := (fun k_ => some k_ ≠ (.slice Ao8 t662.length co8 : Value).ownBlock ∧ some k_ ≠ (v677 : Value).ownBlock)) (aN_ HO675.out) hg hat); have n2_ := Aside0.mk (Kd.N_afterv (ok := (fun _ => True)) (aN_ HO678.out) hg hat); have n3_ := Aside0.mk (hb); have n4_ := Aside0.mk (ho); clear HO_3; clear HO675; clear HO678; clear HB; clear HO681; have HO_3 := n0_; have HO675 := n1_; have HO678 := n2_; have HB := n3_; have HO684 := n4_; clear n0_ n1_ n2_ n3_ n4_; clear ho hb hg hat) | ((with_reducible refine gate_builtin (b := .append) (xs := #[.tmp 34, .tmp 36]) rfl ?_); at_builtin; refine Kd.N_append k36 (w0 := w) w.heap.size rfl (.tmp 34) (.tmp 36) 25 36 (.agg #[(.int .i64 0), (.int .i64 0), (.int .i64 0), (.int .i64 0), (.int .i64 0), (.slice none 0 0), (.slice none 0 0), (.slice none 0 0)]) 112 rfl Try.underlying25 info36 rfl (by decide) (by omega) v683 y682 (⟨0, 0, 0, (⟨0, 0, ([] : List (S34))⟩ : S34), ([] : List (S36)), ([] : List (S36))⟩ : S36) [.int .i64 0, .int .i64 0, .int .i64 0, .int .i64 0, .int .i64 0, .slice none 0 0, .slice none 0 0, .slice none 0 0] (fun k_ => some k_ ≠ (.slice Ao38 t673.length co38 : Value).ownBlock ∧ some k_ ≠ (v677 : Value).ownBlock) (fun k_ => ((fun k_ => some k_ ≠ (.slice Ao38 t673.length co38 : Value).ownBlock ∧ some k_ ≠ (v677 : Value).ownBlock)) k_ ∧ some k_ ≠ (v683 : Value).ownBlock) rfl rfl ?aP (fun _ hk => hk) ?aF ?aO ?aB ?aS ?aL ?_; (case aP => exact (k36_mkF _ _ (⟨0, 0, 0, (⟨0, 0, ([] : List (S34))⟩ : S34), ([] : List (S36)), ([] : List (S36))⟩ : S36) (Nat.le_refl _) (Kd.F_nil _ _ _) (Nat.le_refl _) (Kd.F_nil _ _ _) (Nat.le_refl _) (Kd.F_nil _ _ _))); (case aB => exact ab1_); (case aF => exact (fun k_ hk => ⟨Kd.fresh' (Kd.N_lt (aN_ HO675.out)) k_ hk, Kd.fresh' (Kd.N_lt (aN_ HO678.out)) k_ hk⟩)); (case aO => exact (aN_ HO684.out)); (case aS => exact (below_size ab1_)); (case aL => have := LMc17.out; omega); intro v686 w42 ho hb hg hat; rw [← Ny685.out] at ho; have n0_ := Aside0.mk (Kd.N_afterv (ok := (fun k_ => some k_ ≠ (.slice Ao38 t673.length co38 : Value).ownBlock ∧ some k_ ≠ (v677 : Value).ownBlock)) (aN_ HO_3.out) hg hat); have n1_ := Aside0.mk (Kd.N_afterv (ok := (fun k_ => some k_ ≠ (.slice Ao8 t662.length co8 : Value).ownBlock ∧ some k_ ≠ (v677 : Value).ownBlock)) (aN_ HO675.out) hg hat); have n2_ := Aside0.mk (Kd.N_afterv (ok := (fun _ => True)) (aN_ HO678.out) hg hat); have n3_ := Aside0.mk (hb); have n4_ := Aside0.mk (ho); clear HO_3; clear HO675; clear HO678; clear HB; clear HO684; have HO_3 := n0_; have HO675 := n1_; have HO678 := n2_; have HB := n3_; have HO687 := n4_; clear n0_ n1_ n2_ n3_ n4_; clear ho hb hg hat; obtain ⟨Ao43, co43, eo43⟩ := Kd.N_slice HO678.out; subst eo43) | ((with_reducible refine gate_callee (f := 14) rfl ?_); refine goesL_ (some 39) rfl rfl Try.func14 (by kernel_rfl) rfl #[.slice Ao43 y676.length co43] rfl ab2_ ?_; (with_reducible refine (impl_StmtsValid.calls kj5 _ _ y676 false _ ?side1 ?side2 A18.out).mono ?_); (case side1 => repeat (first | exact (Kd.N_reads' HO678.out).2.2 | (with_reducible refine Kd.C_alloc ?_ _) | (with_reducible refine Kd.C_drewN ?_ _) | (with_reducible refine Kd.C_drew ?_))); (case side2 => exact (Kd.N_reads' HO678.out).2.1); rintro e w44 ⟨rfl, hb⟩; refine ⟨_, rfl, ?_⟩; have n0_ := Aside0.mk (Kd.N_below (aN_ HO_3.out) hb); have n1_ := Aside0.mk (Kd.N_below (aN_ HO675.out) hb); have n2_ := Aside0.mk (Kd.N_below (aN_ HO678.out) hb); have n3_ := Aside0.mk (Kd.N_below (aN_ HO687.out) hb); have n4_ := Aside0.mk (below_step ab1_ hb); clear HO_3; clear HO675; clear HO678; clear HO687; clear HB; have HO_3 := n0_; have HO675 := n1_; have HO678 := n2_; have HO687 := n3_; have HB := n4_; clear n0_ n1_ n2_ n3_ n4_; (try clear hb); (try clear hb2); (try clear hk); (try clear hi); obtain ⟨Ao45, co45, eo45⟩ := Kd.N_slice HO687.out; subst eo45) | (go_at_call 14; (with_reducible refine (impl_StmtsValid.calls kj5 _ _ y685 t689 _ ?side1 ?side2 A32.out).mono ?_); (case side1 => repeat (first | exact (Kd.N_reads' HO687.out).2.2 | (with_reducible refine Kd.C_alloc ?_ _) | (with_reducible refine Kd.C_drewN ?_ _) | (with_reducible refine Kd.C_drew ?_))); (case side2 => exact (Kd.N_reads' HO687.out).2.1); rintro e w46 ⟨rfl, hb⟩; have n0_ := Aside0.mk (Kd.N_below (aN_ HO_3.out) hb); have n1_ := Aside0.mk (Kd.N_below (aN_ HO675.out) hb); have n2_ := Aside0.mk (Kd.N_below (aN_ HO678.out) hb); have n3_ := Aside0.mk (Kd.N_below (aN_ HO687.out) hb); have n4_ := Aside0.mk (below_step ab1_ hb); clear HO_3; clear HO675; clear HO678; clear HO687; clear HB; have HO_3 := n0_; have HO675 := n1_; have HO678 := n2_; have HO687 := n3_; have HB := n4_; clear n0_ n1_ n2_ n3_ n4_; (try clear hb); (try clear hb2); (try clear hk); (try clear hi)))
                    go_ret
                    exact ⟨by first | rfl | (simp [errW_none, errW_some] <;> rfl) | (simp [*, errW_none, errW_some] <;> rfl), ab1_⟩
                · rw [if_neg c17] at H
                  exact absurd H (by simp)
              · rw [if_neg c16] at H
                exact absurd H (by simp)
            · rw [if_neg c15] at H
              exact absurd H (by simp)
          · rw [if_neg c13] at H
            exact absurd H (by simp)

/-- THE ONE PURE STATEMENT of laws_FnStmtsMany: yours. -/
def laws_FnStmtsMany.Pure : Prop := ∀ (l0 : List Int), l0.length ≤ maxLen → l0.length * 1 ≤ 140737488351232 → (∀ x ∈ l0, (Lit.int .u8 x).wf = true) → ∃ k, laws_FnStmtsMany.f k l0 = some true
theorem laws_FnStmtsMany.walk (P : laws_FnStmtsMany.Pure) (a0 : Option Addr) (len0 cap0 : Nat) (z0 : List Int) (w : World) (w0 : (a0 = none ∧ len0 = 0 ∧ cap0 = 0 ∧ z0 = []) ∨ ∃ x, a0 = some x ∧ len0 ≤ cap0 ∧ cap0 ≤ maxLen ∧ z0.length = cap0 ∧ (∀ i, i < z0.length → w.cell? (x.add i) = some (.int .u8 (z0.getD i 0))) ∧ ∀ n ∈ z0, (Lit.int .u8 n).wf = true) (y0 : len0 * 1 ≤ 140737488351232) :
    Calls Try.prog 6 #[.slice a0 len0 cap0] w fun e w' => e = .returned (.bool true) ∧ Below w.heap.size w w' := by
  obtain ⟨l0, rfl, hr0, hm0, hw0, hc0⟩ := ReadsInt.ofRowC w0
  obtain ⟨k, h⟩ := P l0 hm0 y0 hw0
  refine (laws_FnStmtsMany.calls k _ _ l0 true w (Kd.C_of_reads (d := (0 : Int)) (h1 := fun _ => rfl) hr0) hc0 h).mono ?_
  rintro e w' ⟨rfl, hd⟩
  exact ⟨rfl, hd⟩

end Go.Proofs.Ytpifdlpieglhlaa.PA

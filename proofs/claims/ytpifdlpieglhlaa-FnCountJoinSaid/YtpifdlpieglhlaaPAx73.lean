-- made by a program of this session (wip/myprint.py over the kit's print)
import Derived.Test.YtpifdlpieglhlaaV
import Derived.Test.YtpifdlpieglhlaaPAx0
import Derived.Test.YtpifdlpieglhlaaPAx1
import Derived.Test.YtpifdlpieglhlaaPAx36
import Derived.Test.YtpifdlpieglhlaaPAx69
import Derived.Test.YtpifdlpieglhlaaPAx71
import Derived.Test.YtpifdlpieglhlaaPAx72
namespace Go.Proofs.Ytpifdlpieglhlaa.PA
open Go.RowKit Go.Proofs.YtpifdlpieglhlaaW.PrintWords Go.Proofs.YtpifdlpieglhlaaW.PrintLast Go.Proofs.YtpifdlpieglhlaaW.PrintMore
attribute [local go_sem] max2_int min2_int max_two min_two max_three min_three max_four min_four   -- for this text's walks alone
set_option linter.unusedVariables false
set_option linter.unusedSimpArgs false

/-! ### laws_FnCountJoin: function 7 -/
theorem laws_FnCountJoin.mono_l : ∀ k, (∀ y0 y1 y2, LeO (laws_FnCountJoin.j0 k y0 y1 y2) (laws_FnCountJoin.j0 (k + 1) y0 y1 y2)) ∧ (∀ y0 y1 y2 y3 y4, LeO (laws_FnCountJoin.j1 k y0 y1 y2 y3 y4) (laws_FnCountJoin.j1 (k + 1) y0 y1 y2 y3 y4))
  | 0 => ⟨fun _ _ _ r h => by simp [laws_FnCountJoin.j0] at h, fun _ _ _ _ _ r h => by simp [laws_FnCountJoin.j1] at h⟩
  | k + 1 => by
    obtain ⟨ih0, ih1⟩ := laws_FnCountJoin.mono_l k
    refine ⟨?_, ?_⟩
    · intro y0 y1 y2
      unfold laws_FnCountJoin.j0
      repeat' first
      | (with_reducible exact ih0 _ _ _)
      | (with_reducible exact ih1 _ _ _ _ _)
      | (with_reducible exact impl_StmtsCount.mono _ _)
      | (with_reducible exact impl_StmtsValid.mono _ _)
      | (with_reducible exact spec_DrawStmtsCount.mono _ _)
      | (with_reducible exact spec_StmtsCount.mono _ _)
      | (with_reducible exact LeO.refl _)
      | (with_reducible exact LeO.none _)
      | (with_reducible refine LeO.ite ?_ ?_)
      | (with_reducible refine LeO.bind ?_ (fun _ => ?_))
      | exact ih0 _ _ _
      | exact ih1 _ _ _ _ _
      | exact impl_StmtsCount.mono _ _
      | exact impl_StmtsValid.mono _ _
      | exact spec_DrawStmtsCount.mono _ _
      | exact spec_StmtsCount.mono _ _
      | exact LeO.none _
      | refine LeO.ite ?_ ?_
      | refine LeO.bind ?_ (fun _ => ?_)
    · intro y0 y1 y2 y3 y4
      unfold laws_FnCountJoin.j1
      repeat' first
      | (with_reducible exact ih0 _ _ _)
      | (with_reducible exact ih1 _ _ _ _ _)
      | (with_reducible exact impl_StmtsCount.mono _ _)
      | (with_reducible exact impl_StmtsValid.mono _ _)
      | (with_reducible exact spec_DrawStmtsCount.mono _ _)
      | (with_reducible exact spec_StmtsCount.mono _ _)
      | (with_reducible exact LeO.refl _)
      | (with_reducible exact LeO.none _)
      | (with_reducible refine LeO.ite ?_ ?_)
      | (with_reducible refine LeO.bind ?_ (fun _ => ?_))
      | exact ih0 _ _ _
      | exact ih1 _ _ _ _ _
      | exact impl_StmtsCount.mono _ _
      | exact impl_StmtsValid.mono _ _
      | exact spec_DrawStmtsCount.mono _ _
      | exact spec_StmtsCount.mono _ _
      | exact LeO.none _
      | refine LeO.ite ?_ ?_
      | refine LeO.bind ?_ (fun _ => ?_)
theorem laws_FnCountJoin.mono : ∀ a0 a1 k, LeO (laws_FnCountJoin.f k a0 a1) (laws_FnCountJoin.f (k + 1) a0 a1) := by
  intro a0 a1 k
  obtain ⟨ih0, ih1⟩ := laws_FnCountJoin.mono_l k
  unfold laws_FnCountJoin.f
  repeat' first
      | (with_reducible exact ih0 _ _ _)
      | (with_reducible exact ih1 _ _ _ _ _)
      | (with_reducible exact impl_StmtsCount.mono _ _)
      | (with_reducible exact impl_StmtsValid.mono _ _)
      | (with_reducible exact spec_DrawStmtsCount.mono _ _)
      | (with_reducible exact spec_StmtsCount.mono _ _)
      | (with_reducible exact LeO.refl _)
      | (with_reducible exact LeO.none _)
      | (with_reducible refine LeO.ite ?_ ?_)
      | (with_reducible refine LeO.bind ?_ (fun _ => ?_))
      | exact ih0 _ _ _
      | exact ih1 _ _ _ _ _
      | exact impl_StmtsCount.mono _ _
      | exact impl_StmtsValid.mono _ _
      | exact spec_DrawStmtsCount.mono _ _
      | exact spec_StmtsCount.mono _ _
      | exact LeO.none _
      | refine LeO.ite ?_ ?_
      | refine LeO.bind ?_ (fun _ => ?_)
set_option maxHeartbeats 8000000 in
set_option maxRecDepth 100000 in
theorem laws_FnCountJoin.calls (k : Nat) (A0 : Option Addr) (c0 : Nat) (l0 : List Int) (A1 : Option Addr) (c1 : Nat) (l1 : List Int) (r : Bool) (w : World) (hr0 : Kd.C (Kd.int .u8) w A0 l0.length l0) (hc0 : l0.length ≤ c0) (hr1 : Kd.C (Kd.int .u8) w A1 l1.length l1) (hc1 : l1.length ≤ c1) (h : laws_FnCountJoin.f k l0 l1 = some r) :
    Calls Try.prog 7 #[.slice A0 l0.length c0, .slice A1 l1.length c1] w fun e w' => e = .returned (.bool r) ∧ Below w.heap.size w w' := by
  have HR0 := Aside0.mk hr0
  have HC0 := Aside0.mk hc0
  clear hr0 hc0
  have HR1 := Aside0.mk hr1
  have HC1 := Aside0.mk hc1
  clear hr1 hc1
  have HB := Aside0.mk (Below.refl w.heap.size w)
  have H : (if (l0.length : Int) > 1048576 then (laws_FnCountJoin.j0 k l0 l1 true) else (laws_FnCountJoin.j0 k l0 l1 (decide ((l1.length : Int) > 1048576)))) = some r := h
  clear h
  have HC3 := Aside0.mk H
  clear H
  go_enter Try.func7, Try.ntmps7
  go_upto_region 1 with (fail)
  go_cut [18] (fun v18 wc => ∃ (kq : Nat) (x18_2 : Bool), v18 = .bool x18_2 ∧ Aside0 (laws_FnCountJoin.j0 kq l0 l1 x18_2 = some r) ∧ Aside0 (kq ≤ k) ∧ Aside0 (Below w.heap.size w wc))
  case first =>
    have H := HC3.out
    clear HC3
    by_cases c4 : (l0.length : Int) > 1048576
    · rw [if_pos c4] at H
      have c4b0 : decide (1048576 < (l0.length : Int)) = true := decide_eq_true c4
      have c4b1 : decide (1048576 < l0.length) = true := decide_eq_true (by omega)
      clear c4
      (first | rw [c4b0] | (simp only [i64_w, i32_w]; rw [c4b0]) | skip)
      have H' := Aside0.mk H
      clear H
      go_wp2
      go_meet
      case rel => exact ⟨_, (true), (by first | rfl | (simp; done) | (simp [*]; done)), H', ⟨by first | omega | exact Nat.le_refl _⟩, ⟨ab1_⟩⟩
    · rw [if_neg c4] at H
      have c4b0 : decide (1048576 < (l0.length : Int)) = false := decide_eq_false c4
      have c4b1 : decide (1048576 < l0.length) = false := decide_eq_false (by omega)
      clear c4
      (first | rw [c4b0] | (simp only [i64_w, i32_w]; rw [c4b0]) | skip)
      have H' := Aside0.mk H
      clear H
      go_wp2
      go_meet
      case rel => exact ⟨_, (decide ((l1.length : Int) > 1048576)), (by first | rfl | (simp; done) | (simp [*]; done)), H', ⟨by first | omega | exact Nat.le_refl _⟩, ⟨ab1_⟩⟩
  case rest =>
    clear HC3
    try clear c1
    try clear p2
    try clear c4
    try clear c4b0
    try clear c4b1
    obtain ⟨kq, x18_2, rfl, HA, HJ2, HB⟩ := hcut
    cases kq with
    | zero => exact absurd HA.out (by simp [laws_FnCountJoin.j0])
    | succ kj2 =>
      have H := HA.out
      clear HA
      simp only [laws_FnCountJoin.j0] at H
      by_cases c5 : x18_2 = true
      · subst c5
        have H1 : (some true) = some r := by rw [if_pos rfl] at H; exact H
        clear H
        have H := H1
        clear H1
        obtain rfl := Option.some.inj H
        go_wp2
        go_ret
        exact ⟨by first | rfl | (simp [errW_none, errW_some] <;> rfl) | (simp [*, errW_none, errW_some] <;> rfl), ab1_⟩
      · replace c5 := Bool.eq_false_iff.mpr c5
        subst c5
        have H1 : ((spec_DrawStmtsCount.f kj2 l0).bind fun t705 => ((impl_StmtsCount.f kj2 t705).bind fun t708 => ((spec_StmtsCount.f kj2 t705).bind fun t709 => (if t708 = t709 then (laws_FnCountJoin.j1 kj2 l1 t705 t708 t709 (decide (t708 < 0))) else (laws_FnCountJoin.j1 kj2 l1 t705 t708 t709 true))))) = some r := by rw [if_neg (show ¬ (false = true) by decide)] at H; exact H
        clear H
        have H := H1
        clear H1
        replace H := Option.bind_eq_some_iff.mp H
        obtain ⟨t705, A60, H⟩ := H
        replace H : ((impl_StmtsCount.f kj2 t705).bind fun t708 => ((spec_StmtsCount.f kj2 t705).bind fun t709 => (if t708 = t709 then (laws_FnCountJoin.j1 kj2 l1 t705 t708 t709 (decide (t708 < 0))) else (laws_FnCountJoin.j1 kj2 l1 t705 t708 t709 true)))) = some r := H
        have A6 := Aside0.mk A60
        clear A60
        replace H := Option.bind_eq_some_iff.mp H
        obtain ⟨t708, A70, H⟩ := H
        replace H : ((spec_StmtsCount.f kj2 t705).bind fun t709 => (if t708 = t709 then (laws_FnCountJoin.j1 kj2 l1 t705 t708 t709 (decide (t708 < 0))) else (laws_FnCountJoin.j1 kj2 l1 t705 t708 t709 true))) = some r := H
        have A7 := Aside0.mk A70
        clear A70
        replace H := Option.bind_eq_some_iff.mp H
        obtain ⟨t709, A80, H⟩ := H
        replace H : (if t708 = t709 then (laws_FnCountJoin.j1 kj2 l1 t705 t708 t709 (decide (t708 < 0))) else (laws_FnCountJoin.j1 kj2 l1 t705 t708 t709 true)) = some r := H
        have A8 := Aside0.mk A80
        clear A80
        have HC9 := Aside0.mk H
        clear H
        go_upto_region 6 with (first | ((with_reducible refine gate_callee (f := 18) rfl ?_); refine goesL_ (some 20) rfl rfl Try.func18 (by kernel_rfl) rfl #[.slice A0 l0.length c0] rfl ab2_ ?_; (with_reducible refine (spec_DrawStmtsCount.calls kj2 _ _ l0 t705 _ ?side1 ?side2 A6.out).mono ?_); (case side1 => repeat (first | exact (Kd.C_below HR0.out HB.out) | (with_reducible refine Kd.C_alloc ?_ _) | (with_reducible refine Kd.C_drewN ?_ _) | (with_reducible refine Kd.C_drew ?_))); (case side2 => exact HC0.out); rintro e w10 ⟨v706, rfl, ho0, hb⟩; refine ⟨_, rfl, ?_⟩; have n0_ := Aside0.mk (Kd.N_lower (Kd.N_mono (ok' := fun k_ => True) ho0 (fun k_ hk_ => trivial)) (below_size ab1_)); have n1_ := Aside0.mk (below_step ab1_ hb); clear HB; have HO707 := n0_; have HB := n1_; clear n0_ n1_; (try clear hb); (try clear hb2); (try clear hk); (try clear hi); (try clear ho0); obtain ⟨Ao11, co11, eo11⟩ := Kd.N_slice HO707.out; subst eo11) | ((with_reducible refine gate_callee (f := 19) rfl ?_); refine goesL_ (some 22) rfl rfl Try.func19 (by kernel_rfl) rfl #[.slice Ao11 t705.length co11] rfl ab2_ ?_; (with_reducible refine (impl_StmtsCount.calls kj2 _ _ t705 t708 _ ?side1 ?side2 A7.out).mono ?_); (case side1 => repeat (first | exact (Kd.N_reads' HO707.out).2.2 | (with_reducible refine Kd.C_alloc ?_ _) | (with_reducible refine Kd.C_drewN ?_ _) | (with_reducible refine Kd.C_drew ?_))); (case side2 => exact (Kd.N_reads' HO707.out).2.1); rintro e w12 ⟨rfl, hb⟩; refine ⟨_, rfl, ?_⟩; have n0_ := Aside0.mk (Kd.N_below (aN_ HO707.out) hb); have n1_ := Aside0.mk (below_step ab1_ hb); clear HO707; clear HB; have HO707 := n0_; have HB := n1_; clear n0_ n1_; (try clear hb); (try clear hb2); (try clear hk); (try clear hi)) | ((with_reducible refine gate_callee (f := 20) rfl ?_); refine goesL_ (some 24) rfl rfl Try.func20 (by kernel_rfl) rfl #[.slice Ao11 t705.length co11] rfl ab2_ ?_; (with_reducible refine (spec_StmtsCount.calls kj2 _ _ t705 t709 _ ?side1 ?side2 A8.out).mono ?_); (case side1 => repeat (first | exact (Kd.N_reads' HO707.out).2.2 | (with_reducible refine Kd.C_alloc ?_ _) | (with_reducible refine Kd.C_drewN ?_ _) | (with_reducible refine Kd.C_drew ?_))); (case side2 => exact (Kd.N_reads' HO707.out).2.1); rintro e w13 ⟨rfl, hb⟩; refine ⟨_, rfl, ?_⟩; have n0_ := Aside0.mk (Kd.N_below (aN_ HO707.out) hb); have n1_ := Aside0.mk (below_step ab1_ hb); clear HO707; clear HB; have HO707 := n0_; have HB := n1_; clear n0_ n1_; (try clear hb); (try clear hb2); (try clear hk); (try clear hi)))
        (try simp only [Act.put, List.setIfInBounds_toArray, List.set_cons_zero, List.set_cons_succ])
        go_cut [31] (fun v31 wc => ∃ (kq : Nat) (x31_8 : Bool), v31 = .bool x31_8 ∧ Aside0 (laws_FnCountJoin.j1 kq l1 t705 t708 t709 x31_8 = some r) ∧ Aside0 (kq ≤ kj2) ∧ Aside0 (Kd.N k36 36 wc w.heap.size (fun _ => True) (.slice Ao11 t705.length co11) t705) ∧ Aside0 (Below w.heap.size w wc))
        case first =>
          have H := HC9.out
          clear HC9
          by_cases c14 : t708 = t709
          · rw [if_pos c14] at H
            have c14b0 : (t708 == t709) = true := beq_iff_eq.mpr c14
            have c14b1 : (t708 != t709) = false := bne_eq_false_iff_eq.mpr c14
            clear c14
            (first | rw [c14b0] | (simp only [i64_w, i32_w]; rw [c14b0]) | skip)
            have H' := Aside0.mk H
            clear H
            go_wp2
            go_meet
            case rel => exact ⟨_, (decide (t708 < 0)), (by first | rfl | (simp; done) | (simp [*]; done)), H', ⟨by have := HJ2.out; first | omega | exact Nat.le_refl _⟩, ⟨by (with_reducible repeat (first | apply Kd.N_alloc | apply Kd.N_drewN | apply Kd.N_drew)); exact HO707.out⟩, ⟨ab1_⟩⟩
          · rw [if_neg c14] at H
            have c14b0 : (t708 == t709) = false := beq_eq_false_iff_ne.mpr c14
            have c14b1 : (t708 != t709) = true := bne_iff_ne.mpr c14
            (first | rw [c14b0] | (simp only [i64_w, i32_w]; rw [c14b0]) | skip)
            have H' := Aside0.mk H
            clear H
            go_wp2
            go_meet
            case rel => exact ⟨_, (true), (by first | rfl | (simp; done) | (simp [*]; done)), H', ⟨by have := HJ2.out; first | omega | exact Nat.le_refl _⟩, ⟨by (with_reducible repeat (first | apply Kd.N_alloc | apply Kd.N_drewN | apply Kd.N_drew)); exact HO707.out⟩, ⟨ab1_⟩⟩
        case rest =>
          clear HC9
          try clear c1
          try clear c2
          try clear p2
          try clear c4
          try clear c4b0
          try clear c4b1
          try clear c5
          try clear c7
          try clear c14
          try clear c14b0
          try clear c14b1
          try clear p2
          obtain ⟨kq, x31_8, rfl, HA, HJ8, HO_5, HB⟩ := hcut
          cases kq with
          | zero => exact absurd HA.out (by simp [laws_FnCountJoin.j1])
          | succ kj8 =>
            have H := HA.out
            clear HA
            simp only [laws_FnCountJoin.j1] at H
            by_cases c15 : x31_8 = true
            · subst c15
              have H1 : (some (t708 == t709)) = some r := by rw [if_pos rfl] at H; exact H
              clear H
              have H := H1
              clear H1
              obtain rfl := Option.some.inj H
              go_wp2
              go_ret
              exact ⟨by first | rfl | (simp [errW_none, errW_some] <;> rfl) | (simp [*, errW_none, errW_some] <;> rfl), ab1_⟩
            · replace c15 := Bool.eq_false_iff.mpr c15
              subst c15
              have H1 : ((spec_DrawStmtsCount.f kj8 l1).bind fun t710 => ((impl_StmtsCount.f kj8 t710).bind fun t713 => ((some (([] : List (S36)) : List (S36))).bind fun y714 => (if y714.length + t705.length < 1256584717458 then ((some (y714 ++ t705 : List (S36))).bind fun y717 => (if y717.length + t710.length < 1256584717458 then ((some (y717 ++ t710 : List (S36))).bind fun y720 => (if t713 < 0 then ((impl_StmtsValid.f kj8 y720).bind fun t723 => (some (!t723))) else ((impl_StmtsValid.f kj8 y720).bind fun t724 => (some (t724 == (decide ((wrap64 (t708 + t713)) ≤ 16))))))) else (none))) else (none))))) = some r := by rw [if_neg (show ¬ (false = true) by decide)] at H; exact H
              clear H
              have H := H1
              clear H1
              replace H := Option.bind_eq_some_iff.mp H
              obtain ⟨t710, A160, H⟩ := H
              replace H : ((impl_StmtsCount.f kj8 t710).bind fun t713 => ((some (([] : List (S36)) : List (S36))).bind fun y714 => (if y714.length + t705.length < 1256584717458 then ((some (y714 ++ t705 : List (S36))).bind fun y717 => (if y717.length + t710.length < 1256584717458 then ((some (y717 ++ t710 : List (S36))).bind fun y720 => (if t713 < 0 then ((impl_StmtsValid.f kj8 y720).bind fun t723 => (some (!t723))) else ((impl_StmtsValid.f kj8 y720).bind fun t724 => (some (t724 == (decide ((wrap64 (t708 + t713)) ≤ 16))))))) else (none))) else (none)))) = some r := H
              have A16 := Aside0.mk A160
              clear A160
              replace H := Option.bind_eq_some_iff.mp H
              obtain ⟨t713, A170, H⟩ := H
              replace H : ((some (([] : List (S36)) : List (S36))).bind fun y714 => (if y714.length + t705.length < 1256584717458 then ((some (y714 ++ t705 : List (S36))).bind fun y717 => (if y717.length + t710.length < 1256584717458 then ((some (y717 ++ t710 : List (S36))).bind fun y720 => (if t713 < 0 then ((impl_StmtsValid.f kj8 y720).bind fun t723 => (some (!t723))) else ((impl_StmtsValid.f kj8 y720).bind fun t724 => (some (t724 == (decide ((wrap64 (t708 + t713)) ≤ 16))))))) else (none))) else (none))) = some r := H
              have A17 := Aside0.mk A170
              clear A170
              obtain ⟨y714, hy714⟩ : ∃ y_ : List (S36), y_ = (([] : List (S36))) := ⟨_, rfl⟩
              replace H : (if y714.length + t705.length < 1256584717458 then ((some (y714 ++ t705 : List (S36))).bind fun y717 => (if y717.length + t710.length < 1256584717458 then ((some (y717 ++ t710 : List (S36))).bind fun y720 => (if t713 < 0 then ((impl_StmtsValid.f kj8 y720).bind fun t723 => (some (!t723))) else ((impl_StmtsValid.f kj8 y720).bind fun t724 => (some (t724 == (decide ((wrap64 (t708 + t713)) ≤ 16))))))) else (none))) else (none)) = some r := by first | (rw [hy714]; with_reducible exact H) | (have H2_ := (Option.bind_some _ _).symm.trans H; rw [hy714]; with_reducible exact H2_) | (have H2_ := (Option.bind_some _ _).symm.trans H; with_reducible exact H2_) | with_reducible exact H | (rw [hy714]; exact H) | exact H
              have Ny714 := Aside0.mk hy714
              clear hy714
              by_cases c18 : y714.length + t705.length < 1256584717458
              · rw [if_pos c18] at H
                have LMc18 := Aside0.mk c18
                clear c18
                obtain ⟨y717, hy717⟩ : ∃ y_ : List (S36), y_ = (y714 ++ t705) := ⟨_, rfl⟩
                replace H : (if y717.length + t710.length < 1256584717458 then ((some (y717 ++ t710 : List (S36))).bind fun y720 => (if t713 < 0 then ((impl_StmtsValid.f kj8 y720).bind fun t723 => (some (!t723))) else ((impl_StmtsValid.f kj8 y720).bind fun t724 => (some (t724 == (decide ((wrap64 (t708 + t713)) ≤ 16))))))) else (none)) = some r := by first | (rw [hy717]; with_reducible exact H) | (have H2_ := (Option.bind_some _ _).symm.trans H; rw [hy717]; with_reducible exact H2_) | (have H2_ := (Option.bind_some _ _).symm.trans H; with_reducible exact H2_) | with_reducible exact H | (rw [hy717]; exact H) | exact H
                have Ny717 := Aside0.mk hy717
                clear hy717
                by_cases c19 : y717.length + t710.length < 1256584717458
                · rw [if_pos c19] at H
                  have LMc19 := Aside0.mk c19
                  clear c19
                  obtain ⟨y720, hy720⟩ : ∃ y_ : List (S36), y_ = (y717 ++ t710) := ⟨_, rfl⟩
                  replace H : (if t713 < 0 then ((impl_StmtsValid.f kj8 y720).bind fun t723 => (some (!t723))) else ((impl_StmtsValid.f kj8 y720).bind fun t724 => (some (t724 == (decide ((wrap64 (t708 + t713)) ≤ 16)))))) = some r := by first | (rw [hy720]; with_reducible exact H) | (have H2_ := (Option.bind_some _ _).symm.trans H; rw [hy720]; with_reducible exact H2_) | (have H2_ := (Option.bind_some _ _).symm.trans H; with_reducible exact H2_) | with_reducible exact H | (rw [hy720]; exact H) | exact H
                  have Ny720 := Aside0.mk hy720
                  clear hy720
                  by_cases c20 : t713 < 0
                  · rw [if_pos c20] at H
                    have c20b0 : decide (t713 < 0) = true := decide_eq_true c20
                    clear c20
                    replace H := Option.bind_eq_some_iff.mp H
                    obtain ⟨t723, A210, H⟩ := H
                    replace H : (some (!t723)) = some r := H
                    have A21 := Aside0.mk A210
                    clear A210
                    obtain rfl := Option.some.inj H
                    go_wp2_with (first | ((with_reducible refine gate_callee (f := 18) rfl ?_); refine goesL_ (some 36) rfl rfl Try.func18 (by kernel_rfl) rfl #[.slice A1 l1.length c1] rfl ab2_ ?_; (with_reducible refine (spec_DrawStmtsCount.calls kj8 _ _ l1 t710 _ ?side1 ?side2 A16.out).mono ?_); (case side1 => repeat (first | exact (Kd.C_below HR1.out HB.out) | (with_reducible refine Kd.C_alloc ?_ _) | (with_reducible refine Kd.C_drewN ?_ _) | (with_reducible refine Kd.C_drew ?_))); (case side2 => exact HC1.out); rintro e w22 ⟨v711, rfl, ho0, hb⟩; refine ⟨_, rfl, ?_⟩; have n0_ := Aside0.mk (Kd.N_elder' (aN_ HO_5.out) (by first | exact Kd.N_base ho0 | exact Kd.N_base (Kd.R_N ho0)) hb); have n1_ := Aside0.mk (Kd.N_lower (Kd.N_mono (ok' := fun k_ => some k_ ≠ (.slice Ao11 t705.length co11 : Value).ownBlock) ho0 (fun k_ hk_ => (Kd.fresh' (Kd.N_lt (aN_ HO_5.out)) k_ hk_))) (below_size ab1_)); have n2_ := Aside0.mk (below_step ab1_ hb); clear HO_5; clear HB; have HO_5 := n0_; have HO712 := n1_; have HB := n2_; clear n0_ n1_ n2_; (try clear hb); (try clear hb2); (try clear hk); (try clear hi); (try clear ho0); obtain ⟨Ao23, co23, eo23⟩ := Kd.N_slice HO712.out; subst eo23) | ((with_reducible refine gate_callee (f := 19) rfl ?_); refine goesL_ (some 38) rfl rfl Try.func19 (by kernel_rfl) rfl #[.slice Ao23 t710.length co23] rfl ab2_ ?_; (with_reducible refine (impl_StmtsCount.calls kj8 _ _ t710 t713 _ ?side1 ?side2 A17.out).mono ?_); (case side1 => repeat (first | exact (Kd.N_reads' HO712.out).2.2 | (with_reducible refine Kd.C_alloc ?_ _) | (with_reducible refine Kd.C_drewN ?_ _) | (with_reducible refine Kd.C_drew ?_))); (case side2 => exact (Kd.N_reads' HO712.out).2.1); rintro e w24 ⟨rfl, hb⟩; refine ⟨_, rfl, ?_⟩; have n0_ := Aside0.mk (Kd.N_below (aN_ HO_5.out) hb); have n1_ := Aside0.mk (Kd.N_below (aN_ HO712.out) hb); have n2_ := Aside0.mk (below_step ab1_ hb); clear HO_5; clear HO712; clear HB; have HO_5 := n0_; have HO712 := n1_; have HB := n2_; clear n0_ n1_ n2_; (try clear hb); (try clear hb2); (try clear hk); (try clear hi)) | ((with_reducible refine gate_dst (N := 39) rfl ?_); (try (refine gate_guard (by rfl) ?_; dsimp only)); refine Kd.N_lit k36 _ 36 ?hg (N' := 39) ?hd (xs := ([] : List (S36))) (inner := []) (ok := (fun k_ => some k_ ≠ (.slice Ao11 t705.length co11 : Value).ownBlock ∧ some k_ ≠ (.slice Ao23 t710.length co23 : Value).ownBlock)) (okp := (fun k_ => some k_ ≠ (.slice Ao11 t705.length co11 : Value).ownBlock ∧ some k_ ≠ (.slice Ao23 t710.length co23 : Value).ownBlock)) ?hr ?hp (fun _ hk => hk) ((show ∀ k_, w24.heap.size ≤ k_ → (fun k_ => some k_ ≠ (.slice Ao11 t705.length co11 : Value).ownBlock ∧ some k_ ≠ (.slice Ao23 t710.length co23 : Value).ownBlock) k_ from fun k_ hk => ⟨Kd.fresh' (Kd.N_lt (aN_ HO_5.out)) k_ hk, Kd.fresh' (Kd.N_lt (aN_ HO712.out)) k_ hk⟩) _ (Nat.le_refl _)) (Below.refl _ _) (Nat.le_refl _) (by simp) ?_; (case hd => rfl); (case hg => rfl); (case hr => first | (go_simp; done) | (go_simp; rfl)); (case hp => exact (Reps.none _ _)); intro v715 w25 ho26 hb hg_ hnew_; clear hg_ hnew_; (first | rw [← Ny714.out] at ho26 | (simp only [Int.reduceToNat] at ho26; rw [← Ny714.out] at ho26)); have n0_ := Aside0.mk (Kd.N_elder' (aN_ HO_5.out) (Kd.N_base ho26) hb); have n1_ := Aside0.mk (Kd.N_elder' (aN_ HO712.out) (Kd.N_base ho26) hb); have n2_ := Aside0.mk (Kd.N_lower ho26 (below_size ab1_)); have n3_ := Aside0.mk (below_step ab1_ hb); clear HO_5; clear HO712; clear HB; have HO_5 := n0_; have HO712 := n1_; have HO716 := n2_; have HB := n3_; clear n0_ n1_ n2_ n3_; clear hb ho26) | ((with_reducible refine gate_builtin (b := .append) (xs := #[.tmp 39, .tmp 40]) rfl ?_); (try (refine gate_guard (by rfl) ?_; dsimp only)); at_builtin; refine Kd.N_append_rows k36 (w0 := w) w.heap.size rfl (.tmp 39) (.tmp 40) 25 36 (.agg #[(.int .i64 0), (.int .i64 0), (.int .i64 0), (.int .i64 0), (.int .i64 0), (.slice none 0 0), (.slice none 0 0), (.slice none 0 0)]) 112 rfl Try.underlying25 info36 rfl (by decide) (by omega) v715 y714 t705 _ _ _ (fun k_ => some k_ ≠ (.slice Ao23 t710.length co23 : Value).ownBlock) (fun k_ => ((fun k_ => some k_ ≠ (.slice Ao23 t710.length co23 : Value).ownBlock)) k_ ∧ some k_ ≠ (v715 : Value).ownBlock) rfl rfl ?aO ?aR (fun _ hk => hk) ?aF ?aB ?aS ?aL ?_; (case aR => exact (by skip; exact Kd.N_F (Kd.N_mono (ok' := (fun k_ => ((fun k_ => some k_ ≠ (.slice Ao23 t710.length co23 : Value).ownBlock)) k_ ∧ some k_ ≠ (v715 : Value).ownBlock)) (HO_5.out) (fun k_ hk => ⟨hk.1.2, hk.2⟩)))); (case aB => exact ab1_); (case aF => exact (fun k_ hk => Kd.fresh' (Kd.N_lt (aN_ HO712.out)) k_ hk)); (case aO => exact (by (with_reducible repeat (first | apply Kd.N_alloc | apply Kd.N_drewN | apply Kd.N_drew)); exact Kd.N_mono HO716.out (fun _ hk => hk.2))); (case aS => exact (below_size ab1_)); (case aL => have := LMc18.out; omega); intro v718 w27 ho hb hg hat; rw [← Ny717.out] at ho; have n0_ := Aside0.mk (Kd.N_afterv (ok := (fun k_ => some k_ ≠ (.slice Ao23 t710.length co23 : Value).ownBlock)) (by (with_reducible repeat (first | apply Kd.N_alloc | apply Kd.N_drewN | apply Kd.N_drew)); exact Kd.N_mono HO_5.out (fun _ hk => ⟨hk.1.2, hk.2⟩)) hg hat); have n1_ := Aside0.mk (Kd.N_afterv (ok := (fun k_ => some k_ ≠ (.slice Ao11 t705.length co11 : Value).ownBlock)) (aN_ HO712.out) hg hat); have n2_ := Aside0.mk (hb); have n3_ := Aside0.mk (ho); clear HO_5; clear HO712; clear HB; clear HO716; have HO_5 := n0_; have HO712 := n1_; have HB := n2_; have HO719 := n3_; clear n0_ n1_ n2_ n3_; clear ho hb hg hat) | ((with_reducible refine gate_builtin (b := .append) (xs := #[.tmp 41, .tmp 42]) rfl ?_); (try (refine gate_guard (by rfl) ?_; dsimp only)); at_builtin; refine Kd.N_append_rows k36 (w0 := w) w.heap.size rfl (.tmp 41) (.tmp 42) 25 36 (.agg #[(.int .i64 0), (.int .i64 0), (.int .i64 0), (.int .i64 0), (.int .i64 0), (.slice none 0 0), (.slice none 0 0), (.slice none 0 0)]) 112 rfl Try.underlying25 info36 rfl (by decide) (by omega) v718 y717 t710 _ _ _ (fun _ => True) (fun k_ => ((fun _ => True)) k_ ∧ some k_ ≠ (v718 : Value).ownBlock) rfl rfl ?aO ?aR (fun _ hk => hk) ?aF ?aB ?aS ?aL ?_; (case aR => exact (by skip; exact Kd.N_F (Kd.N_mono (ok' := (fun k_ => ((fun _ => True)) k_ ∧ some k_ ≠ (v718 : Value).ownBlock)) (HO712.out) (fun k_ hk => ⟨trivial, hk.2⟩)))); (case aB => exact ab1_); (case aF => exact (fun _ _ => trivial)); (case aO => exact (by (with_reducible repeat (first | apply Kd.N_alloc | apply Kd.N_drewN | apply Kd.N_drew)); exact Kd.N_mono HO719.out (fun _ hk => trivial))); (case aS => exact (below_size ab1_)); (case aL => have := LMc19.out; omega); intro v721 w28 ho hb hg hat; rw [← Ny720.out] at ho; have n0_ := Aside0.mk (Kd.N_afterv (ok := (fun k_ => some k_ ≠ (.slice Ao23 t710.length co23 : Value).ownBlock)) (aN_ HO_5.out) hg hat); have n1_ := Aside0.mk (Kd.N_afterv (ok := (fun k_ => some k_ ≠ (.slice Ao11 t705.length co11 : Value).ownBlock)) (aN_ HO712.out) hg hat); have n2_ := Aside0.mk (hb); have n3_ := Aside0.mk (ho); clear HO_5; clear HO712; clear HB; clear HO719; have HO_5 := n0_; have HO712 := n1_; have HB := n2_; have HO722 := n3_; clear n0_ n1_ n2_ n3_; clear ho hb hg hat; obtain ⟨Ao29, co29, eo29⟩ := Kd.N_slice HO722.out; subst eo29) | ((with_reducible refine gate_callee (f := 14) rfl ?_); refine goesL_ (some 47) rfl rfl Try.func14 (by kernel_rfl) rfl #[.slice Ao29 y720.length co29] rfl ab2_ ?_; (with_reducible refine (impl_StmtsValid.calls kj8 _ _ y720 t723 _ ?side1 ?side2 A21.out).mono ?_); (case side1 => repeat (first | exact (Kd.N_reads' HO722.out).2.2 | (with_reducible refine Kd.C_alloc ?_ _) | (with_reducible refine Kd.C_drewN ?_ _) | (with_reducible refine Kd.C_drew ?_))); (case side2 => exact (Kd.N_reads' HO722.out).2.1); rintro e w30 ⟨rfl, hb⟩; refine ⟨_, rfl, ?_⟩; have n0_ := Aside0.mk (Kd.N_below (aN_ HO_5.out) hb); have n1_ := Aside0.mk (Kd.N_below (aN_ HO712.out) hb); have n2_ := Aside0.mk (Kd.N_below (aN_ HO722.out) hb); have n3_ := Aside0.mk (below_step ab1_ hb); clear HO_5; clear HO712; clear HO722; clear HB; have HO_5 := n0_; have HO712 := n1_; have HO722 := n2_; have HB := n3_; clear n0_ n1_ n2_ n3_; (try clear hb); (try clear hb2); (try clear hk); (try clear hi)))
                    go_ret
                    exact ⟨by first | rfl | (simp [errW_none, errW_some] <;> rfl) | (simp [*, errW_none, errW_some] <;> rfl), ab1_⟩
                  · rw [if_neg c20] at H
                    have c20b0 : decide (t713 < 0) = false := decide_eq_false c20
                    clear c20
                    replace H := Option.bind_eq_some_iff.mp H
                    obtain ⟨t724, A310, H⟩ := H
                    replace H : (some (t724 == (decide ((wrap64 (t708 + t713)) ≤ 16)))) = some r := H
                    have A31 := Aside0.mk A310
                    clear A310
                    obtain rfl := Option.some.inj H
                    go_wp2_with (first | ((with_reducible refine gate_callee (f := 18) rfl ?_); refine goesL_ (some 36) rfl rfl Try.func18 (by kernel_rfl) rfl #[.slice A1 l1.length c1] rfl ab2_ ?_; (with_reducible refine (spec_DrawStmtsCount.calls kj8 _ _ l1 t710 _ ?side1 ?side2 A16.out).mono ?_); (case side1 => repeat (first | exact (Kd.C_below HR1.out HB.out) | (with_reducible refine Kd.C_alloc ?_ _) | (with_reducible refine Kd.C_drewN ?_ _) | (with_reducible refine Kd.C_drew ?_))); (case side2 => exact HC1.out); rintro e w32 ⟨v711, rfl, ho0, hb⟩; refine ⟨_, rfl, ?_⟩; have n0_ := Aside0.mk (Kd.N_elder' (aN_ HO_5.out) (by first | exact Kd.N_base ho0 | exact Kd.N_base (Kd.R_N ho0)) hb); have n1_ := Aside0.mk (Kd.N_lower (Kd.N_mono (ok' := fun k_ => some k_ ≠ (.slice Ao11 t705.length co11 : Value).ownBlock) ho0 (fun k_ hk_ => (Kd.fresh' (Kd.N_lt (aN_ HO_5.out)) k_ hk_))) (below_size ab1_)); have n2_ := Aside0.mk (below_step ab1_ hb); clear HO_5; clear HB; have HO_5 := n0_; have HO712 := n1_; have HB := n2_; clear n0_ n1_ n2_; (try clear hb); (try clear hb2); (try clear hk); (try clear hi); (try clear ho0); obtain ⟨Ao33, co33, eo33⟩ := Kd.N_slice HO712.out; subst eo33) | ((with_reducible refine gate_callee (f := 19) rfl ?_); refine goesL_ (some 38) rfl rfl Try.func19 (by kernel_rfl) rfl #[.slice Ao33 t710.length co33] rfl ab2_ ?_; (with_reducible refine (impl_StmtsCount.calls kj8 _ _ t710 t713 _ ?side1 ?side2 A17.out).mono ?_); (case side1 => repeat (first | exact (Kd.N_reads' HO712.out).2.2 | (with_reducible refine Kd.C_alloc ?_ _) | (with_reducible refine Kd.C_drewN ?_ _) | (with_reducible refine Kd.C_drew ?_))); (case side2 => exact (Kd.N_reads' HO712.out).2.1); rintro e w34 ⟨rfl, hb⟩; refine ⟨_, rfl, ?_⟩; have n0_ := Aside0.mk (Kd.N_below (aN_ HO_5.out) hb); have n1_ := Aside0.mk (Kd.N_below (aN_ HO712.out) hb); have n2_ := Aside0.mk (below_step ab1_ hb); clear HO_5; clear HO712; clear HB; have HO_5 := n0_; have HO712 := n1_; have HB := n2_; clear n0_ n1_ n2_; (try clear hb); (try clear hb2); (try clear hk); (try clear hi)) | ((with_reducible refine gate_dst (N := 39) rfl ?_); (try (refine gate_guard (by rfl) ?_; dsimp only)); refine Kd.N_lit k36 _ 36 ?hg (N' := 39) ?hd (xs := ([] : List (S36))) (inner := []) (ok := (fun k_ => some k_ ≠ (.slice Ao11 t705.length co11 : Value).ownBlock ∧ some k_ ≠ (.slice Ao33 t710.length co33 : Value).ownBlock)) (okp := (fun k_ => some k_ ≠ (.slice Ao11 t705.length co11 : Value).ownBlock ∧ some k_ ≠ (.slice Ao33 t710.length co33 : Value).ownBlock)) ?hr ?hp (fun _ hk => hk) ((show ∀ k_, w34.heap.size ≤ k_ → (fun k_ => some k_ ≠ (.slice Ao11 t705.length co11 : Value).ownBlock ∧ some k_ ≠ (.slice Ao33 t710.length co33 : Value).ownBlock) k_ from fun k_ hk => ⟨Kd.fresh' (Kd.N_lt (aN_ HO_5.out)) k_ hk, Kd.fresh' (Kd.N_lt (aN_ HO712.out)) k_ hk⟩) _ (Nat.le_refl _)) (Below.refl _ _) (Nat.le_refl _) (by simp) ?_; (case hd => rfl); (case hg => rfl); (case hr => first | (go_simp; done) | (go_simp; rfl)); (case hp => exact (Reps.none _ _)); intro v715 w35 ho36 hb hg_ hnew_; clear hg_ hnew_; (first | rw [← Ny714.out] at ho36 | (simp only [Int.reduceToNat] at ho36; rw [← Ny714.out] at ho36)); have n0_ := Aside0.mk (Kd.N_elder' (aN_ HO_5.out) (Kd.N_base ho36) hb); have n1_ := Aside0.mk (Kd.N_elder' (aN_ HO712.out) (Kd.N_base ho36) hb); have n2_ := Aside0.mk (Kd.N_lower ho36 (below_size ab1_)); have n3_ := Aside0.mk (below_step ab1_ hb); clear HO_5; clear HO712; clear HB; have HO_5 := n0_; have HO712 := n1_; have HO716 := n2_; have HB := n3_; clear n0_ n1_ n2_ n3_; clear hb ho36) | ((with_reducible refine gate_builtin (b := .append) (xs := #[.tmp 39, .tmp 40]) rfl ?_); (try (refine gate_guard (by rfl) ?_; dsimp only)); at_builtin; refine Kd.N_append_rows k36 (w0 := w) w.heap.size rfl (.tmp 39) (.tmp 40) 25 36 (.agg #[(.int .i64 0), (.int .i64 0), (.int .i64 0), (.int .i64 0), (.int .i64 0), (.slice none 0 0), (.slice none 0 0), (.slice none 0 0)]) 112 rfl Try.underlying25 info36 rfl (by decide) (by omega) v715 y714 t705 _ _ _ (fun k_ => some k_ ≠ (.slice Ao33 t710.length co33 : Value).ownBlock) (fun k_ => ((fun k_ => some k_ ≠ (.slice Ao33 t710.length co33 : Value).ownBlock)) k_ ∧ some k_ ≠ (v715 : Value).ownBlock) rfl rfl ?aO ?aR (fun _ hk => hk) ?aF ?aB ?aS ?aL ?_; (case aR => exact (by skip; exact Kd.N_F (Kd.N_mono (ok' := (fun k_ => ((fun k_ => some k_ ≠ (.slice Ao33 t710.length co33 : Value).ownBlock)) k_ ∧ some k_ ≠ (v715 : Value).ownBlock)) (HO_5.out) (fun k_ hk => ⟨hk.1.2, hk.2⟩)))); (case aB => exact ab1_); (case aF => exact (fun k_ hk => Kd.fresh' (Kd.N_lt (aN_ HO712.out)) k_ hk)); (case aO => exact (by (with_reducible repeat (first | apply Kd.N_alloc | apply Kd.N_drewN | apply Kd.N_drew)); exact Kd.N_mono HO716.out (fun _ hk => hk.2))); (case aS => exact (below_size ab1_)); (case aL => have := LMc18.out; omega); intro v718 w37 ho hb hg hat; rw [← Ny717.out] at ho; have n0_ := Aside0.mk (Kd.N_afterv (ok := (fun k_ => some k_ ≠ (.slice Ao33 t710.length co33 : Value).ownBlock)) (by (with_reducible repeat (first | apply Kd.N_alloc | apply Kd.N_drewN | apply Kd.N_drew)); exact Kd.N_mono HO_5.out (fun _ hk => ⟨hk.1.2, hk.2⟩)) hg hat); have n1_ := Aside0.mk (Kd.N_afterv (ok := (fun k_ => some k_ ≠ (.slice Ao11 t705.length co11 : Value).ownBlock)) (aN_ HO712.out) hg hat); have n2_ := Aside0.mk (hb); have n3_ := Aside0.mk (ho); clear HO_5; clear HO712; clear HB; clear HO716; have HO_5 := n0_; have HO712 := n1_; have HB := n2_; have HO719 := n3_; clear n0_ n1_ n2_ n3_; clear ho hb hg hat) | ((with_reducible refine gate_builtin (b := .append) (xs := #[.tmp 41, .tmp 42]) rfl ?_); (try (refine gate_guard (by rfl) ?_; dsimp only)); at_builtin; refine Kd.N_append_rows k36 (w0 := w) w.heap.size rfl (.tmp 41) (.tmp 42) 25 36 (.agg #[(.int .i64 0), (.int .i64 0), (.int .i64 0), (.int .i64 0), (.int .i64 0), (.slice none 0 0), (.slice none 0 0), (.slice none 0 0)]) 112 rfl Try.underlying25 info36 rfl (by decide) (by omega) v718 y717 t710 _ _ _ (fun _ => True) (fun k_ => ((fun _ => True)) k_ ∧ some k_ ≠ (v718 : Value).ownBlock) rfl rfl ?aO ?aR (fun _ hk => hk) ?aF ?aB ?aS ?aL ?_; (case aR => exact (by skip; exact Kd.N_F (Kd.N_mono (ok' := (fun k_ => ((fun _ => True)) k_ ∧ some k_ ≠ (v718 : Value).ownBlock)) (HO712.out) (fun k_ hk => ⟨trivial, hk.2⟩)))); (case aB => exact ab1_); (case aF => exact (fun _ _ => trivial)); (case aO => exact (by (with_reducible repeat (first | apply Kd.N_alloc | apply Kd.N_drewN | apply Kd.N_drew)); exact Kd.N_mono HO719.out (fun _ hk => trivial))); (case aS => exact (below_size ab1_)); (case aL => have := LMc19.out; omega); intro v721 w38 ho hb hg hat; rw [← Ny720.out] at ho; have n0_ := Aside0.mk (Kd.N_afterv (ok := (fun k_ => some k_ ≠ (.slice Ao33 t710.length co33 : Value).ownBlock)) (aN_ HO_5.out) hg hat); have n1_ := Aside0.mk (Kd.N_afterv (ok := (fun k_ => some k_ ≠ (.slice Ao11 t705.length co11 : Value).ownBlock)) (aN_ HO712.out) hg hat); have n2_ := Aside0.mk (hb); have n3_ := Aside0.mk (ho); clear HO_5; clear HO712; clear HB; clear HO719; have HO_5 := n0_; have HO712 := n1_; have HB := n2_; have HO722 := n3_; clear n0_ n1_ n2_ n3_; clear ho hb hg hat; obtain ⟨Ao39, co39, eo39⟩ := Kd.N_slice HO722.out; subst eo39) | ((with_reducible refine gate_callee (f := 14) rfl ?_); refine goesL_ (some 50) rfl rfl Try.func14 (by kernel_rfl) rfl #[.slice Ao39 y720.length co39] rfl ab2_ ?_; (with_reducible refine (impl_StmtsValid.calls kj8 _ _ y720 t724 _ ?side1 ?side2 A31.out).mono ?_); (case side1 => repeat (first | exact (Kd.N_reads' HO722.out).2.2 | (with_reducible refine Kd.C_alloc ?_ _) | (with_reducible refine Kd.C_drewN ?_ _) | (with_reducible refine Kd.C_drew ?_))); (case side2 => exact (Kd.N_reads' HO722.out).2.1); rintro e w40 ⟨rfl, hb⟩; refine ⟨_, rfl, ?_⟩; have n0_ := Aside0.mk (Kd.N_below (aN_ HO_5.out) hb); have n1_ := Aside0.mk (Kd.N_below (aN_ HO712.out) hb); have n2_ := Aside0.mk (Kd.N_below (aN_ HO722.out) hb); have n3_ := Aside0.mk (below_step ab1_ hb); clear HO_5; clear HO712; clear HO722; clear HB; have HO_5 := n0_; have HO712 := n1_; have HO722 := n2_; have HB := n3_; clear n0_ n1_ n2_ n3_; (try clear hb); (try clear hb2); (try clear hk); (try clear hi)))
                    go_ret
                    exact ⟨by first | rfl | (simp [errW_none, errW_some] <;> rfl) | (simp [*, errW_none, errW_some] <;> rfl), ab1_⟩
                · rw [if_neg c19] at H
                  exact absurd H (by simp)
              · rw [if_neg c18] at H
                exact absurd H (by simp)

/-- THE ONE PURE STATEMENT of laws_FnCountJoin: yours. -/
def laws_FnCountJoin.Pure : Prop := ∀ (l0 : List Int) (l1 : List Int), l0.length ≤ maxLen → l0.length * 1 ≤ 140737488351232 → (∀ x ∈ l0, (Lit.int .u8 x).wf = true) → l1.length ≤ maxLen → l1.length * 1 ≤ 140737488351232 → (∀ x ∈ l1, (Lit.int .u8 x).wf = true) → ∃ k, laws_FnCountJoin.f k l0 l1 = some true
theorem laws_FnCountJoin.walk (P : laws_FnCountJoin.Pure) (a0 : Option Addr) (len0 cap0 : Nat) (z0 : List Int) (a1 : Option Addr) (len1 cap1 : Nat) (z1 : List Int) (w : World) (w0 : (a0 = none ∧ len0 = 0 ∧ cap0 = 0 ∧ z0 = []) ∨ ∃ x, a0 = some x ∧ len0 ≤ cap0 ∧ cap0 ≤ maxLen ∧ z0.length = cap0 ∧ (∀ i, i < z0.length → w.cell? (x.add i) = some (.int .u8 (z0.getD i 0))) ∧ ∀ n ∈ z0, (Lit.int .u8 n).wf = true) (y0 : len0 * 1 ≤ 140737488351232) (w1 : (a1 = none ∧ len1 = 0 ∧ cap1 = 0 ∧ z1 = []) ∨ ∃ x, a1 = some x ∧ len1 ≤ cap1 ∧ cap1 ≤ maxLen ∧ z1.length = cap1 ∧ (∀ i, i < z1.length → w.cell? (x.add i) = some (.int .u8 (z1.getD i 0))) ∧ ∀ n ∈ z1, (Lit.int .u8 n).wf = true) (y1 : len1 * 1 ≤ 140737488351232) :
    Calls Try.prog 7 #[.slice a0 len0 cap0, .slice a1 len1 cap1] w fun e w' => e = .returned (.bool true) ∧ Below w.heap.size w w' := by
  obtain ⟨l0, rfl, hr0, hm0, hw0, hc0⟩ := ReadsInt.ofRowC w0
  obtain ⟨l1, rfl, hr1, hm1, hw1, hc1⟩ := ReadsInt.ofRowC w1
  obtain ⟨k, h⟩ := P l0 l1 hm0 y0 hw0 hm1 y1 hw1
  refine (laws_FnCountJoin.calls k _ _ l0 _ _ l1 true w (Kd.C_of_reads (d := (0 : Int)) (h1 := fun _ => rfl) hr0) hc0 (Kd.C_of_reads (d := (0 : Int)) (h1 := fun _ => rfl) hr1) hc1 h).mono ?_
  rintro e w' ⟨rfl, hd⟩
  exact ⟨rfl, hd⟩

end Go.Proofs.Ytpifdlpieglhlaa.PA

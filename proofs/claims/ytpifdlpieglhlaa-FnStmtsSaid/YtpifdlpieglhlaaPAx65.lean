-- made by a program of this session (wip/myprint.py over the kit's print)
import Derived.Test.YtpifdlpieglhlaaV
import Derived.Test.YtpifdlpieglhlaaPAx0
import Derived.Test.YtpifdlpieglhlaaPAx1
import Derived.Test.YtpifdlpieglhlaaPAx23
import Derived.Test.YtpifdlpieglhlaaPAx36
import Derived.Test.YtpifdlpieglhlaaPAx64
namespace Go.Proofs.Ytpifdlpieglhlaa.PA
open Go.RowKit Go.Proofs.YtpifdlpieglhlaaW.PrintWords Go.Proofs.YtpifdlpieglhlaaW.PrintLast Go.Proofs.YtpifdlpieglhlaaW.PrintMore
attribute [local go_sem] max2_int min2_int max_two min_two max_three min_three max_four min_four   -- for this text's walks alone
set_option linter.unusedVariables false
set_option linter.unusedSimpArgs false

/-! ### laws_FnStmts: function 4 -/
theorem laws_FnStmts.mono_l : ∀ k, (∀ y0 y1 y2, LeO (laws_FnStmts.j0 k y0 y1 y2) (laws_FnStmts.j0 (k + 1) y0 y1 y2)) ∧ (∀ y0 y1 y2 y3 y4, LeO (laws_FnStmts.j1 k y0 y1 y2 y3 y4) (laws_FnStmts.j1 (k + 1) y0 y1 y2 y3 y4))
  | 0 => ⟨fun _ _ _ r h => by simp [laws_FnStmts.j0] at h, fun _ _ _ _ _ r h => by simp [laws_FnStmts.j1] at h⟩
  | k + 1 => by
    obtain ⟨ih0, ih1⟩ := laws_FnStmts.mono_l k
    refine ⟨?_, ?_⟩
    · intro y0 y1 y2
      unfold laws_FnStmts.j0
      repeat' first
      | (with_reducible exact ih0 _ _ _)
      | (with_reducible exact ih1 _ _ _ _ _)
      | (with_reducible exact impl_StmtsValid.mono _ _)
      | (with_reducible exact spec_DrawStmtsValid.mono _ _)
      | (with_reducible exact spec_StmtsValid.mono _ _)
      | (with_reducible exact LeO.refl _)
      | (with_reducible exact LeO.none _)
      | (with_reducible refine LeO.ite ?_ ?_)
      | (with_reducible refine LeO.bind ?_ (fun _ => ?_))
      | exact ih0 _ _ _
      | exact ih1 _ _ _ _ _
      | exact impl_StmtsValid.mono _ _
      | exact spec_DrawStmtsValid.mono _ _
      | exact spec_StmtsValid.mono _ _
      | exact LeO.none _
      | refine LeO.ite ?_ ?_
      | refine LeO.bind ?_ (fun _ => ?_)
    · intro y0 y1 y2 y3 y4
      unfold laws_FnStmts.j1
      repeat' first
      | (with_reducible exact ih0 _ _ _)
      | (with_reducible exact ih1 _ _ _ _ _)
      | (with_reducible exact impl_StmtsValid.mono _ _)
      | (with_reducible exact spec_DrawStmtsValid.mono _ _)
      | (with_reducible exact spec_StmtsValid.mono _ _)
      | (with_reducible exact LeO.refl _)
      | (with_reducible exact LeO.none _)
      | (with_reducible refine LeO.ite ?_ ?_)
      | (with_reducible refine LeO.bind ?_ (fun _ => ?_))
      | exact ih0 _ _ _
      | exact ih1 _ _ _ _ _
      | exact impl_StmtsValid.mono _ _
      | exact spec_DrawStmtsValid.mono _ _
      | exact spec_StmtsValid.mono _ _
      | exact LeO.none _
      | refine LeO.ite ?_ ?_
      | refine LeO.bind ?_ (fun _ => ?_)
theorem laws_FnStmts.mono : ∀ a0 a1 k, LeO (laws_FnStmts.f k a0 a1) (laws_FnStmts.f (k + 1) a0 a1) := by
  intro a0 a1 k
  obtain ⟨ih0, ih1⟩ := laws_FnStmts.mono_l k
  unfold laws_FnStmts.f
  repeat' first
      | (with_reducible exact ih0 _ _ _)
      | (with_reducible exact ih1 _ _ _ _ _)
      | (with_reducible exact impl_StmtsValid.mono _ _)
      | (with_reducible exact spec_DrawStmtsValid.mono _ _)
      | (with_reducible exact spec_StmtsValid.mono _ _)
      | (with_reducible exact LeO.refl _)
      | (with_reducible exact LeO.none _)
      | (with_reducible refine LeO.ite ?_ ?_)
      | (with_reducible refine LeO.bind ?_ (fun _ => ?_))
      | exact ih0 _ _ _
      | exact ih1 _ _ _ _ _
      | exact impl_StmtsValid.mono _ _
      | exact spec_DrawStmtsValid.mono _ _
      | exact spec_StmtsValid.mono _ _
      | exact LeO.none _
      | refine LeO.ite ?_ ?_
      | refine LeO.bind ?_ (fun _ => ?_)
set_option maxHeartbeats 8000000 in
set_option maxRecDepth 100000 in
theorem laws_FnStmts.calls (k : Nat) (A0 : Option Addr) (c0 : Nat) (l0 : List Int) (A1 : Option Addr) (c1 : Nat) (l1 : List Int) (r : Bool) (w : World) (hr0 : Kd.C (Kd.int .u8) w A0 l0.length l0) (hc0 : l0.length ≤ c0) (hr1 : Kd.C (Kd.int .u8) w A1 l1.length l1) (hc1 : l1.length ≤ c1) (h : laws_FnStmts.f k l0 l1 = some r) :
    Calls Try.prog 4 #[.slice A0 l0.length c0, .slice A1 l1.length c1] w fun e w' => e = .returned (.bool r) ∧ Below w.heap.size w w' := by
  have HR0 := Aside0.mk hr0
  have HC0 := Aside0.mk hc0
  clear hr0 hc0
  have HR1 := Aside0.mk hr1
  have HC1 := Aside0.mk hc1
  clear hr1 hc1
  have HB := Aside0.mk (Below.refl w.heap.size w)
  have H : (if (l0.length : Int) > 1048576 then (laws_FnStmts.j0 k l0 l1 true) else (laws_FnStmts.j0 k l0 l1 (decide ((l1.length : Int) > 1048576)))) = some r := h
  clear h
  have HC3 := Aside0.mk H
  clear H
  go_enter Try.func4, Try.ntmps4
  go_upto_region 1 with (fail)
  go_cut [16] (fun v16 wc => ∃ (kq : Nat) (x16_2 : Bool), v16 = .bool x16_2 ∧ Aside0 (laws_FnStmts.j0 kq l0 l1 x16_2 = some r) ∧ Aside0 (kq ≤ k) ∧ Aside0 (Below w.heap.size w wc))
  case first =>
    have H := HC3.out
    clear HC3
    by_cases c4 : (l0.length : Int) > 1048576
    · rw [if_pos c4] at H
      have c4b0 : decide (1048576 < (l0.length : Int)) = true := decide_eq_true c4
      have c4b1 : decide (1048576 < l0.length) = true := decide_eq_true (by omega)
      clear c4
      (first | rw [c4b0] | (simp only [i64_w, i32_w]; rw [c4b0]) | skip)
      have H' := Aside0.mk H
      clear H
      go_wp2
      go_meet
      case rel => exact ⟨_, (true), (by first | rfl | (simp; done) | (simp [*]; done)), H', ⟨by first | omega | exact Nat.le_refl _⟩, ⟨ab1_⟩⟩
    · rw [if_neg c4] at H
      have c4b0 : decide (1048576 < (l0.length : Int)) = false := decide_eq_false c4
      have c4b1 : decide (1048576 < l0.length) = false := decide_eq_false (by omega)
      clear c4
      (first | rw [c4b0] | (simp only [i64_w, i32_w]; rw [c4b0]) | skip)
      have H' := Aside0.mk H
      clear H
      go_wp2
      go_meet
      case rel => exact ⟨_, (decide ((l1.length : Int) > 1048576)), (by first | rfl | (simp; done) | (simp [*]; done)), H', ⟨by first | omega | exact Nat.le_refl _⟩, ⟨ab1_⟩⟩
  case rest =>
    clear HC3
    try clear c1
    try clear p2
    try clear c4
    try clear c4b0
    try clear c4b1
    obtain ⟨kq, x16_2, rfl, HA, HJ2, HB⟩ := hcut
    cases kq with
    | zero => exact absurd HA.out (by simp [laws_FnStmts.j0])
    | succ kj2 =>
      have H := HA.out
      clear HA
      simp only [laws_FnStmts.j0] at H
      by_cases c5 : x16_2 = true
      · subst c5
        have H1 : (some true) = some r := by rw [if_pos rfl] at H; exact H
        clear H
        have H := H1
        clear H1
        obtain rfl := Option.some.inj H
        go_wp2
        go_ret
        exact ⟨by first | rfl | (simp [errW_none, errW_some] <;> rfl) | (simp [*, errW_none, errW_some] <;> rfl), ab1_⟩
      · replace c5 := Bool.eq_false_iff.mpr c5
        subst c5
        have H1 : ((spec_DrawStmtsValid.f kj2 l0).bind fun t630 => ((impl_StmtsValid.f kj2 t630).bind fun t633 => ((spec_StmtsValid.f kj2 t630).bind fun t634 => (if (t633 != t634) = true then (laws_FnStmts.j1 kj2 l1 t630 t633 t634 true) else (laws_FnStmts.j1 kj2 l1 t630 t633 t634 (!t633)))))) = some r := by rw [if_neg (show ¬ (false = true) by decide)] at H; exact H
        clear H
        have H := H1
        clear H1
        replace H := Option.bind_eq_some_iff.mp H
        obtain ⟨t630, A60, H⟩ := H
        replace H : ((impl_StmtsValid.f kj2 t630).bind fun t633 => ((spec_StmtsValid.f kj2 t630).bind fun t634 => (if (t633 != t634) = true then (laws_FnStmts.j1 kj2 l1 t630 t633 t634 true) else (laws_FnStmts.j1 kj2 l1 t630 t633 t634 (!t633))))) = some r := H
        have A6 := Aside0.mk A60
        clear A60
        replace H := Option.bind_eq_some_iff.mp H
        obtain ⟨t633, A70, H⟩ := H
        replace H : ((spec_StmtsValid.f kj2 t630).bind fun t634 => (if (t633 != t634) = true then (laws_FnStmts.j1 kj2 l1 t630 t633 t634 true) else (laws_FnStmts.j1 kj2 l1 t630 t633 t634 (!t633)))) = some r := H
        have A7 := Aside0.mk A70
        clear A70
        replace H := Option.bind_eq_some_iff.mp H
        obtain ⟨t634, A80, H⟩ := H
        replace H : (if (t633 != t634) = true then (laws_FnStmts.j1 kj2 l1 t630 t633 t634 true) else (laws_FnStmts.j1 kj2 l1 t630 t633 t634 (!t633))) = some r := H
        have A8 := Aside0.mk A80
        clear A80
        have HC9 := Aside0.mk H
        clear H
        go_upto_region 6 with (first | ((with_reducible refine gate_callee (f := 16) rfl ?_); refine goesL_ (some 18) rfl rfl Try.func16 (by kernel_rfl) rfl #[.slice A0 l0.length c0] rfl ab2_ ?_; (with_reducible refine (spec_DrawStmtsValid.calls kj2 _ _ l0 t630 _ ?side1 ?side2 A6.out).mono ?_); (case side1 => repeat (first | exact (Kd.C_below HR0.out HB.out) | (with_reducible refine Kd.C_alloc ?_ _) | (with_reducible refine Kd.C_drewN ?_ _) | (with_reducible refine Kd.C_drew ?_))); (case side2 => exact HC0.out); rintro e w10 ⟨v631, rfl, ho0, hb⟩; refine ⟨_, rfl, ?_⟩; have n0_ := Aside0.mk (Kd.N_lower (Kd.N_mono (ok' := fun k_ => True) ho0 (fun k_ hk_ => trivial)) (below_size ab1_)); have n1_ := Aside0.mk (below_step ab1_ hb); clear HB; have HO632 := n0_; have HB := n1_; clear n0_ n1_; (try clear hb); (try clear hb2); (try clear hk); (try clear hi); (try clear ho0); obtain ⟨Ao11, co11, eo11⟩ := Kd.N_slice HO632.out; subst eo11) | ((with_reducible refine gate_callee (f := 14) rfl ?_); refine goesL_ (some 20) rfl rfl Try.func14 (by kernel_rfl) rfl #[.slice Ao11 t630.length co11] rfl ab2_ ?_; (with_reducible refine (impl_StmtsValid.calls kj2 _ _ t630 t633 _ ?side1 ?side2 A7.out).mono ?_); (case side1 => repeat (first | exact (Kd.N_reads' HO632.out).2.2 | (with_reducible refine Kd.C_alloc ?_ _) | (with_reducible refine Kd.C_drewN ?_ _) | (with_reducible refine Kd.C_drew ?_))); (case side2 => exact (Kd.N_reads' HO632.out).2.1); rintro e w12 ⟨rfl, hb⟩; refine ⟨_, rfl, ?_⟩; have n0_ := Aside0.mk (Kd.N_below (aN_ HO632.out) hb); have n1_ := Aside0.mk (below_step ab1_ hb); clear HO632; clear HB; have HO632 := n0_; have HB := n1_; clear n0_ n1_; (try clear hb); (try clear hb2); (try clear hk); (try clear hi)) | ((with_reducible refine gate_callee (f := 12) rfl ?_); refine goesL_ (some 22) rfl rfl Try.func12 (by kernel_rfl) rfl #[.slice Ao11 t630.length co11] rfl ab2_ ?_; (with_reducible refine (spec_StmtsValid.calls kj2 _ _ t630 t634 _ ?side1 ?side2 A8.out).mono ?_); (case side1 => repeat (first | exact (Kd.N_reads' HO632.out).2.2 | (with_reducible refine Kd.C_alloc ?_ _) | (with_reducible refine Kd.C_drewN ?_ _) | (with_reducible refine Kd.C_drew ?_))); (case side2 => exact (Kd.N_reads' HO632.out).2.1); rintro e w13 ⟨rfl, hb⟩; refine ⟨_, rfl, ?_⟩; have n0_ := Aside0.mk (Kd.N_below (aN_ HO632.out) hb); have n1_ := Aside0.mk (below_step ab1_ hb); clear HO632; clear HB; have HO632 := n0_; have HB := n1_; clear n0_ n1_; (try clear hb); (try clear hb2); (try clear hk); (try clear hi)))
        (try simp only [Act.put, List.setIfInBounds_toArray, List.set_cons_zero, List.set_cons_succ])
        go_cut [29] (fun v29 wc => ∃ (kq : Nat) (x29_8 : Bool), v29 = .bool x29_8 ∧ Aside0 (laws_FnStmts.j1 kq l1 t630 t633 t634 x29_8 = some r) ∧ Aside0 (kq ≤ kj2) ∧ Aside0 (Kd.N k36 36 wc w.heap.size (fun _ => True) (.slice Ao11 t630.length co11) t630) ∧ Aside0 (Below w.heap.size w wc))
        case first =>
          have H := HC9.out
          clear HC9
          by_cases c14 : (t633 != t634) = true
          · rw [if_pos c14] at H
            have c14b0 : (t633 != t634) = true := c14
            (try (have c14b1 : decide (t633 = t634) = false := by simpa using c14))
            (try (have c14b2 : (t633 == t634) = false := by simpa using c14))
            (try (have c14b3 : ¬ (t633 = t634) := by simpa using c14))
            clear c14
            (first | rw [c14b0] | (simp only [i64_w, i32_w]; rw [c14b0]) | skip)
            have H' := Aside0.mk H
            clear H
            go_wp2
            go_meet
            case rel => exact ⟨_, (true), (by first | rfl | (simp; done) | (simp [*]; done)), H', ⟨by have := HJ2.out; first | omega | exact Nat.le_refl _⟩, ⟨by (with_reducible repeat (first | apply Kd.N_alloc | apply Kd.N_drewN | apply Kd.N_drew)); exact HO632.out⟩, ⟨ab1_⟩⟩
          · rw [if_neg c14] at H
            have c14b0 : (t633 != t634) = false := by simpa using c14
            (try (have c14b1 : decide (t633 = t634) = true := by simpa using c14))
            (try (have c14b2 : (t633 == t634) = true := by simpa using c14))
            clear c14
            (first | rw [c14b0] | (simp only [i64_w, i32_w]; rw [c14b0]) | skip)
            have H' := Aside0.mk H
            clear H
            go_wp2
            go_meet
            case rel => exact ⟨_, (!t633), (by first | rfl | (simp; done) | (simp [*]; done)), H', ⟨by have := HJ2.out; first | omega | exact Nat.le_refl _⟩, ⟨by (with_reducible repeat (first | apply Kd.N_alloc | apply Kd.N_drewN | apply Kd.N_drew)); exact HO632.out⟩, ⟨ab1_⟩⟩
        case rest =>
          clear HC9
          try clear c1
          try clear p2
          try clear c4
          try clear c4b0
          try clear c4b1
          try clear c5
          try clear c12
          try clear c14
          try clear c14b0
          try clear c14b1
          try clear c14b2
          try clear p2
          obtain ⟨kq, x29_8, rfl, HA, HJ8, HO_5, HB⟩ := hcut
          cases kq with
          | zero => exact absurd HA.out (by simp [laws_FnStmts.j1])
          | succ kj8 =>
            have H := HA.out
            clear HA
            simp only [laws_FnStmts.j1] at H
            by_cases c15 : x29_8 = true
            · subst c15
              have H1 : (some (t633 == t634)) = some r := by rw [if_pos rfl] at H; exact H
              clear H
              have H := H1
              clear H1
              obtain rfl := Option.some.inj H
              go_wp2
              go_ret
              exact ⟨by first | rfl | (simp [errW_none, errW_some] <;> rfl) | (simp [*, errW_none, errW_some] <;> rfl), ab1_⟩
            · replace c15 := Bool.eq_false_iff.mpr c15
              subst c15
              have H1 : (if (wrap64 ((t630.length : Int) + 1)) = 0 then (none) else (if 0 ≤ ((l1.length : Int) % (wrap64 ((t630.length : Int) + 1))) then (if ((l1.length : Int) % (wrap64 ((t630.length : Int) + 1))) ≤ (t630.length : Int) then ((impl_StmtsValid.f kj8 (t630.take (((l1.length : Int) % (wrap64 ((t630.length : Int) + 1))) : Int).toNat)).bind fun t640 => (if t640 = true then ((impl_StmtsValid.f kj8 (t630.drop (((l1.length : Int) % (wrap64 ((t630.length : Int) + 1))) : Int).toNat)).bind fun t646 => (some t646)) else (some false))) else (none)) else (none))) = some r := by rw [if_neg (show ¬ (false = true) by decide)] at H; exact H
              clear H
              have H := H1
              clear H1
              by_cases c16 : (wrap64 ((t630.length : Int) + 1)) = 0
              · rw [if_pos c16] at H
                exact absurd H (by simp)
              · rw [if_neg c16] at H
                have c16b0 : ((wrap64 ((t630.length : Int) + 1)) == 0) = false := beq_eq_false_iff_ne.mpr c16
                have c16b1 : ((wrap64 ((t630.length : Int) + 1)) != 0) = true := bne_iff_ne.mpr c16
                obtain ⟨ji17, hji17⟩ : ∃ j_ : Int, ((l1.length : Int) % (wrap64 ((t630.length : Int) + 1))) = j_ := ⟨_, rfl⟩
                replace H : (if 0 ≤ (ji17) then (if (ji17) ≤ (t630.length : Int) then ((impl_StmtsValid.f kj8 (t630.take ((ji17) : Int).toNat)).bind fun t640 => (if t640 = true then ((impl_StmtsValid.f kj8 (t630.drop ((ji17) : Int).toNat)).bind fun t646 => (some t646)) else (some false))) else (none)) else (none)) = some r := by first | (rw [hji17] at H; exact H) | (simp only [hji17] at H ⊢; exact H)
                by_cases c18 : 0 ≤ (ji17)
                · rw [if_pos c18] at H
                  have c18b0 := eq_true c18
                  have c18b1 : decide (0 ≤ (ji17)) = true := decide_eq_true c18
                  clear c18
                  by_cases c19 : (ji17) ≤ (t630.length : Int)
                  · rw [if_pos c19] at H
                    have c19b0 := eq_true c19
                    have c19b1 : decide ((ji17) ≤ (t630.length : Int)) = true := decide_eq_true c19
                    clear c19
                    obtain ⟨y635, hy635⟩ : ∃ y_ : List (S36), y_ = (t630.take ((ji17) : Int).toNat) := ⟨_, rfl⟩
                    replace H : ((impl_StmtsValid.f kj8 y635).bind fun t640 => (if t640 = true then ((impl_StmtsValid.f kj8 (t630.drop ((ji17) : Int).toNat)).bind fun t646 => (some t646)) else (some false))) = some r := by first | (rw [hy635]; with_reducible exact H) | (have H2_ := (Option.bind_some _ _).symm.trans H; rw [hy635]; with_reducible exact H2_) | (have H2_ := (Option.bind_some _ _).symm.trans H; with_reducible exact H2_) | with_reducible exact H | (rw [hy635]; exact H) | exact H
                    have Ny635 := Aside0.mk hy635
                    clear hy635
                    replace H := Option.bind_eq_some_iff.mp H
                    obtain ⟨t640, A200, H⟩ := H
                    replace H : (if t640 = true then ((impl_StmtsValid.f kj8 (t630.drop ((ji17) : Int).toNat)).bind fun t646 => (some t646)) else (some false)) = some r := H
                    have A20 := Aside0.mk A200
                    clear A200
                    by_cases c21 : t640 = true
                    · subst c21
                      have H1 : ((impl_StmtsValid.f kj8 (t630.drop ((ji17) : Int).toNat)).bind fun t646 => (some t646)) = some r := by rw [if_pos rfl] at H; exact H
                      clear H
                      have H := H1
                      clear H1
                      have c22b0 := eq_true (of_decide_eq_true (by first | (with_reducible assumption) | assumption) : 0 ≤ (ji17))
                      have c23b0 := eq_true (of_decide_eq_true (by first | (with_reducible assumption) | assumption) : (ji17) ≤ (t630.length : Int))
                      obtain ⟨y641, hy641⟩ : ∃ y_ : List (S36), y_ = (t630.drop ((ji17) : Int).toNat) := ⟨_, rfl⟩
                      replace H : ((impl_StmtsValid.f kj8 y641).bind fun t646 => (some t646)) = some r := by first | (rw [hy641]; with_reducible exact H) | (have H2_ := (Option.bind_some _ _).symm.trans H; rw [hy641]; with_reducible exact H2_) | (have H2_ := (Option.bind_some _ _).symm.trans H; with_reducible exact H2_) | with_reducible exact H | (rw [hy641]; exact H) | exact H
                      have Ny641 := Aside0.mk hy641
                      clear hy641
                      replace H := Option.bind_eq_some_iff.mp H
                      obtain ⟨t646, A240, H⟩ := H
                      replace H : (some t646) = some r := H
                      have A24 := Aside0.mk A240
                      clear A240
                      obtain rfl := Option.some.inj H
                      have q25 : ((ji17) : Int) ≤ ((t630.length : Int) : Int) := of_decide_eq_true (by first | (with_reducible assumption) | assumption)
                      obtain ⟨i025, hi025, _, hsz25, _⟩ := info_parts info36
                      have hroom25 : t630.length ≤ co11 := (Kd.N_reads' HO_5.out).2.1
                      have hC25 : Kd.F k36 _ _ Ao11 t630.length t630 := (Kd.V_at (base := w.heap.size) (Kd.N_V HO_5.out)).2.2
                      have hcut25 := cut_to (P := Try.prog) 25 36 .i64 Try.underlying25 hi025 Ao11 t630.length co11 (ji17) (of_decide_eq_true (by first | (with_reducible assumption) | assumption)) q25 hroom25
                      have hr25 := Kd.F_take (m := ((ji17) : Int).toNat) hC25 (by omega)
                      have hy25 : y635.length = ((ji17) : Int).toNat := (by rw [Ny635.out, List.length_take]; omega)
                      rw [← Ny635.out] at hr25
                      rw [← hy25] at hcut25
                      have HO639 := Aside0.mk (show Kd.V k36 36 _ w.heap.size _ (.slice Ao11 y635.length co11) y635 from Kd.V_mk (by omega) hr25)
                      have HC639 := Aside0.mk (show y635.length ≤ co11 from by omega)
                      clear hr25 hC25 hroom25 hi025 hsz25
                      have KY25 := Aside0.mk hy25
                      clear hy25
                      replace q25 := eq_true q25
                      go_wp2_with (first | ((with_reducible refine gate_callee (f := 14) rfl ?_); refine goesL_ (some 42) rfl rfl Try.func14 (by kernel_rfl) rfl #[.slice Ao11 y635.length co11] rfl ab2_ ?_; (with_reducible refine (impl_StmtsValid.calls kj8 _ _ y635 true _ ?side1 ?side2 A20.out).mono ?_); (case side1 => repeat (first | exact (Kd.V_reads' HO639.out).2.2 | (with_reducible refine Kd.C_alloc ?_ _) | (with_reducible refine Kd.C_drewN ?_ _) | (with_reducible refine Kd.C_drew ?_))); (case side2 => exact (Kd.V_reads' HO639.out).2.1); rintro e w26 ⟨rfl, hb⟩; refine ⟨_, rfl, ?_⟩; have n0_ := Aside0.mk (Kd.N_below (aN_ HO_5.out) hb); have n1_ := Aside0.mk (Kd.V_below (by (with_reducible repeat (first | apply Kd.V_alloc | apply Kd.V_drewN | apply Kd.V_drew)); exact HO639.out) hb); have n2_ := Aside0.mk (below_step ab1_ hb); clear HO_5; clear HO639; clear HB; have HO_5 := n0_; have HO639 := n1_; have HB := n2_; clear n0_ n1_ n2_; (try clear hb); (try clear hb2); (try clear hk); (try clear hi); have q27 : ((ji17) : Int) ≤ ((t630.length : Int) : Int) := of_decide_eq_true (by first | (with_reducible assumption) | assumption); obtain ⟨i027, hi027, _, hsz27, _⟩ := info_parts info36; have hroom27 : t630.length ≤ co11 := (Kd.N_reads' HO_5.out).2.1; have hC27 : Kd.F k36 _ _ Ao11 t630.length t630 := (Kd.V_at (base := w.heap.size) (Kd.N_V HO_5.out)).2.2; have q027 : (0 : Int) ≤ ((ji17) : Int) := of_decide_eq_true (by first | (with_reducible assumption) | assumption); have hcut27 := cut_from (P := Try.prog) 25 36 .i64 Try.underlying25 hi027 8 hsz27 Ao11 t630.length co11 (ji17) q027 q27; have hr27 := Kd.F_cut (m := ((ji17) : Int).toNat) (c := co11) hC27 (by omega) hroom27; obtain ⟨A27, hA27⟩ : ∃ A1, A1 = (if co11 = ((ji17) : Int).toNat then Ao11 else (Ao11 : Option Addr).map (·.add (((ji17) : Int).toNat * 8))) := ⟨_, rfl⟩; obtain ⟨c27, hc27⟩ : ∃ c1, c1 = co11 - ((ji17) : Int).toNat := ⟨_, rfl⟩; have hy27 : y641.length = t630.length - ((ji17) : Int).toNat := (by rw [Ny641.out, List.length_drop] <;> omega); rw [show (t630).drop ((ji17) : Int).toNat = y641 from Ny641.out.symm] at hr27; replace hr27 : Kd.F k36 _ _ A27 y641.length y641 := (by rw [hA27]; exact hr27); rw [← hy27, ← hA27, ← hc27] at hcut27; have HO645 := Aside0.mk (show Kd.V k36 36 _ w.heap.size _ (.slice A27 y641.length c27) y641 from Kd.V_mk (by rw [hy27, hc27]; exact Nat.sub_le_sub_right hroom27 _) hr27); have HC645 := Aside0.mk (show y641.length ≤ c27 from by rw [hy27, hc27]; exact Nat.sub_le_sub_right hroom27 _); clear hr27 hC27 hroom27 hi027 hsz27 hc27; have KY27 := Aside0.mk hy27; have KA27 := Aside0.mk hA27; clear hy27 hA27; replace q27 := eq_true q27) | (go_at_call 14; (with_reducible refine (impl_StmtsValid.calls kj8 _ _ y641 t646 _ ?side1 ?side2 A24.out).mono ?_); (case side1 => repeat (first | exact (Kd.V_reads' HO645.out).2.2 | (with_reducible refine Kd.C_alloc ?_ _) | (with_reducible refine Kd.C_drewN ?_ _) | (with_reducible refine Kd.C_drew ?_))); (case side2 => exact (Kd.V_reads' HO645.out).2.1); rintro e w28 ⟨rfl, hb⟩; have n0_ := Aside0.mk (Kd.N_below (aN_ HO_5.out) hb); have n1_ := Aside0.mk (Kd.V_below (by (with_reducible repeat (first | apply Kd.V_alloc | apply Kd.V_drewN | apply Kd.V_drew)); exact HO639.out) hb); have n2_ := Aside0.mk (Kd.V_below (by (with_reducible repeat (first | apply Kd.V_alloc | apply Kd.V_drewN | apply Kd.V_drew)); exact HO645.out) hb); have n3_ := Aside0.mk (below_step ab1_ hb); clear HO_5; clear HO639; clear HO645; clear HB; have HO_5 := n0_; have HO639 := n1_; have HO645 := n2_; have HB := n3_; clear n0_ n1_ n2_ n3_; (try clear hb); (try clear hb2); (try clear hk); (try clear hi)))
                      go_ret
                      exact ⟨by first | rfl | (simp [errW_none, errW_some] <;> rfl) | (simp only [← hji17]; first | rfl | (simp [errW_none, errW_some] <;> rfl)) | (simp [*, errW_none, errW_some] <;> rfl), ab1_⟩
                    · replace c21 := Bool.eq_false_iff.mpr c21
                      subst c21
                      have H1 : (some false) = some r := by rw [if_neg (show ¬ (false = true) by decide)] at H; exact H
                      clear H
                      have H := H1
                      clear H1
                      obtain rfl := Option.some.inj H
                      have q29 : ((ji17) : Int) ≤ ((t630.length : Int) : Int) := of_decide_eq_true (by first | (with_reducible assumption) | assumption)
                      obtain ⟨i029, hi029, _, hsz29, _⟩ := info_parts info36
                      have hroom29 : t630.length ≤ co11 := (Kd.N_reads' HO_5.out).2.1
                      have hC29 : Kd.F k36 _ _ Ao11 t630.length t630 := (Kd.V_at (base := w.heap.size) (Kd.N_V HO_5.out)).2.2
                      have hcut29 := cut_to (P := Try.prog) 25 36 .i64 Try.underlying25 hi029 Ao11 t630.length co11 (ji17) (of_decide_eq_true (by first | (with_reducible assumption) | assumption)) q29 hroom29
                      have hr29 := Kd.F_take (m := ((ji17) : Int).toNat) hC29 (by omega)
                      have hy29 : y635.length = ((ji17) : Int).toNat := (by rw [Ny635.out, List.length_take]; omega)
                      rw [← Ny635.out] at hr29
                      rw [← hy29] at hcut29
                      have HO639 := Aside0.mk (show Kd.V k36 36 _ w.heap.size _ (.slice Ao11 y635.length co11) y635 from Kd.V_mk (by omega) hr29)
                      have HC639 := Aside0.mk (show y635.length ≤ co11 from by omega)
                      clear hr29 hC29 hroom29 hi029 hsz29
                      have KY29 := Aside0.mk hy29
                      clear hy29
                      replace q29 := eq_true q29
                      go_wp2_with (first | ((with_reducible refine gate_callee (f := 14) rfl ?_); refine goesL_ (some 42) rfl rfl Try.func14 (by kernel_rfl) rfl #[.slice Ao11 y635.length co11] rfl ab2_ ?_; (with_reducible refine (impl_StmtsValid.calls kj8 _ _ y635 false _ ?side1 ?side2 A20.out).mono ?_); (case side1 => repeat (first | exact (Kd.V_reads' HO639.out).2.2 | (with_reducible refine Kd.C_alloc ?_ _) | (with_reducible refine Kd.C_drewN ?_ _) | (with_reducible refine Kd.C_drew ?_))); (case side2 => exact (Kd.V_reads' HO639.out).2.1); rintro e w30 ⟨rfl, hb⟩; refine ⟨_, rfl, ?_⟩; have n0_ := Aside0.mk (Kd.N_below (aN_ HO_5.out) hb); have n1_ := Aside0.mk (Kd.V_below (by (with_reducible repeat (first | apply Kd.V_alloc | apply Kd.V_drewN | apply Kd.V_drew)); exact HO639.out) hb); have n2_ := Aside0.mk (below_step ab1_ hb); clear HO_5; clear HO639; clear HB; have HO_5 := n0_; have HO639 := n1_; have HB := n2_; clear n0_ n1_ n2_; (try clear hb); (try clear hb2); (try clear hk); (try clear hi)))
                      go_ret
                      exact ⟨by first | rfl | (simp [errW_none, errW_some] <;> rfl) | (simp only [← hji17]; first | rfl | (simp [errW_none, errW_some] <;> rfl)) | (simp [*, errW_none, errW_some] <;> rfl), ab1_⟩
                  · rw [if_neg c19] at H
                    exact absurd H (by simp)
                · rw [if_neg c18] at H
                  exact absurd H (by simp)

/-- THE ONE PURE STATEMENT of laws_FnStmts: yours. -/
def laws_FnStmts.Pure : Prop := ∀ (l0 : List Int) (l1 : List Int), l0.length ≤ maxLen → l0.length * 1 ≤ 140737488351232 → (∀ x ∈ l0, (Lit.int .u8 x).wf = true) → l1.length ≤ maxLen → l1.length * 1 ≤ 140737488351232 → (∀ x ∈ l1, (Lit.int .u8 x).wf = true) → ∃ k, laws_FnStmts.f k l0 l1 = some true
theorem laws_FnStmts.walk (P : laws_FnStmts.Pure) (a0 : Option Addr) (len0 cap0 : Nat) (z0 : List Int) (a1 : Option Addr) (len1 cap1 : Nat) (z1 : List Int) (w : World) (w0 : (a0 = none ∧ len0 = 0 ∧ cap0 = 0 ∧ z0 = []) ∨ ∃ x, a0 = some x ∧ len0 ≤ cap0 ∧ cap0 ≤ maxLen ∧ z0.length = cap0 ∧ (∀ i, i < z0.length → w.cell? (x.add i) = some (.int .u8 (z0.getD i 0))) ∧ ∀ n ∈ z0, (Lit.int .u8 n).wf = true) (y0 : len0 * 1 ≤ 140737488351232) (w1 : (a1 = none ∧ len1 = 0 ∧ cap1 = 0 ∧ z1 = []) ∨ ∃ x, a1 = some x ∧ len1 ≤ cap1 ∧ cap1 ≤ maxLen ∧ z1.length = cap1 ∧ (∀ i, i < z1.length → w.cell? (x.add i) = some (.int .u8 (z1.getD i 0))) ∧ ∀ n ∈ z1, (Lit.int .u8 n).wf = true) (y1 : len1 * 1 ≤ 140737488351232) :
    Calls Try.prog 4 #[.slice a0 len0 cap0, .slice a1 len1 cap1] w fun e w' => e = .returned (.bool true) ∧ Below w.heap.size w w' := by
  obtain ⟨l0, rfl, hr0, hm0, hw0, hc0⟩ := ReadsInt.ofRowC w0
  obtain ⟨l1, rfl, hr1, hm1, hw1, hc1⟩ := ReadsInt.ofRowC w1
  obtain ⟨k, h⟩ := P l0 l1 hm0 y0 hw0 hm1 y1 hw1
  refine (laws_FnStmts.calls k _ _ l0 _ _ l1 true w (Kd.C_of_reads (d := (0 : Int)) (h1 := fun _ => rfl) hr0) hc0 (Kd.C_of_reads (d := (0 : Int)) (h1 := fun _ => rfl) hr1) hc1 h).mono ?_
  rintro e w' ⟨rfl, hd⟩
  exact ⟨rfl, hd⟩

end Go.Proofs.Ytpifdlpieglhlaa.PA

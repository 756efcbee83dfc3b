-- made by a program of this session (wip/myprint.py over the kit's print)
import Derived.Test.YtpcbfcaacilghaaV
import Derived.Test.YtpcbfcaacilghaaPAx0
import Derived.Test.YtpcbfcaacilghaaPAx1
namespace Go.Proofs.Ytpcbfcaacilghaa.PA
open Go.RowKit Go.Proofs.YtpcbfcaacilghaaW.PrintWords Go.Proofs.YtpcbfcaacilghaaW.PrintLast Go.Proofs.YtpcbfcaacilghaaW.PrintMore
attribute [local go_sem] max2_int min2_int max_two min_two max_three min_three max_four min_four   -- for this text's walks alone
set_option linter.unusedVariables false
set_option linter.unusedSimpArgs false

/-! ### spec_l12Plain: function 42 -/
theorem spec_l12Plain.mono_l : ∀ k, (∀ y0, LeO (spec_l12Plain.f k y0) (spec_l12Plain.f (k + 1) y0)) ∧ (∀ y0 y1, LeO (spec_l12Plain.l0 k y0 y1) (spec_l12Plain.l0 (k + 1) y0 y1))
  | 0 => ⟨fun _ r h => by simp [spec_l12Plain.f] at h, fun _ _ r h => by simp [spec_l12Plain.l0] at h⟩
  | k + 1 => by
    obtain ⟨ih0, ih1⟩ := spec_l12Plain.mono_l k
    refine ⟨?_, ?_⟩
    · intro y0
      unfold spec_l12Plain.f
      repeat' first
      | (with_reducible exact ih0 _)
      | (with_reducible exact ih1 _ _)
      | (with_reducible exact LeO.refl _)
      | (with_reducible exact LeO.none _)
      | (with_reducible refine LeO.ite ?_ ?_)
      | (with_reducible refine LeO.bind ?_ (fun _ => ?_))
      | exact ih0 _
      | exact ih1 _ _
      | exact LeO.none _
      | refine LeO.ite ?_ ?_
      | refine LeO.bind ?_ (fun _ => ?_)
    · intro y0 y1
      unfold spec_l12Plain.l0
      repeat' first
      | (with_reducible exact ih0 _)
      | (with_reducible exact ih1 _ _)
      | (with_reducible exact LeO.refl _)
      | (with_reducible exact LeO.none _)
      | (with_reducible refine LeO.ite ?_ ?_)
      | (with_reducible refine LeO.bind ?_ (fun _ => ?_))
      | exact ih0 _
      | exact ih1 _ _
      | exact LeO.none _
      | refine LeO.ite ?_ ?_
      | refine LeO.bind ?_ (fun _ => ?_)
theorem spec_l12Plain.mono : ∀ a0 k, LeO (spec_l12Plain.f k a0) (spec_l12Plain.f (k + 1) a0) := by
  intro a0 k
  obtain ⟨ih0, ih1⟩ := spec_l12Plain.mono_l k
  exact ih0 a0
set_option maxHeartbeats 8000000 in
set_option maxRecDepth 100000 in
theorem spec_l12Plain.calls (k : Nat) : ∀ (A0 : Option Addr) (c0 : Nat) (l0 : List (S37)) (r : Bool) (w : World) (hr0 : Kd.C k37 w A0 l0.length l0) (hc0 : l0.length ≤ c0) (h : spec_l12Plain.f k l0 = some r),
    Calls Try.prog 42 #[.slice A0 l0.length c0] w fun e w' => e = .returned (.bool r) ∧ Drawn0 w w' := by
  induction k using Nat.strongRecOn with
  | _ k ih =>
  intro A0 c0 l0 r w hr0 hc0 h
  cases k with
  | zero => exact absurd h (by simp [spec_l12Plain.f])
  | succ k =>
  simp only [spec_l12Plain.f] at h
  have HR0 := Aside0.mk hr0
  have HC0 := Aside0.mk hc0
  clear hr0 hc0
  have H : (spec_l12Plain.l0 k l0 0) = some r := h
  clear h
  have H' := Aside0.mk H
  clear H
  go_enter Try.func42, Try.ntmps42
  go_wp2
  go_loopg [3] k (fun kq v3 w' => ∃ (x3_1 : Int), v3 = .int .i64 x3_1 ∧ Aside0 (spec_l12Plain.l0 kq l0 x3_1 = some r) ∧ Aside0 (kq ≤ k) ∧ Drawn0 w w')
  case atStart => exact ⟨(0), (by first | rfl | (simp; done) | (simp [*]; done)), H', ⟨Nat.le_refl _⟩, ab15_⟩
  case round =>
    clear H'
    obtain ⟨x3_1, rfl, HA, HK1, ⟨m1, rfl⟩⟩ := hrel
    cases gk with
    | zero => exact absurd HA.out (by simp [spec_l12Plain.l0])
    | succ k1 =>
      have H := HA.out
      clear HA
      simp only [spec_l12Plain.l0] at H
      by_cases c2 : x3_1 < (l0.length : Int)
      · rw [if_pos c2] at H
        have c2b0 : decide (x3_1 < (l0.length : Int)) = true := decide_eq_true c2
        clear c2
        by_cases c3 : 0 ≤ x3_1
        · rw [if_pos c3] at H
          have c3b0 : decide (0 ≤ x3_1) = true := decide_eq_true c3
          clear c3
          by_cases c4 : ((rd_T37 l0 x3_1).f0) = 3
          · rw [if_pos c4] at H
            have c4b0 : (((rd_T37 l0 x3_1).f0) == 3) = true := beq_iff_eq.mpr c4
            have c4b1 : (((rd_T37 l0 x3_1).f0) != 3) = false := bne_eq_false_iff_eq.mpr c4
            clear c4
            obtain rfl := Option.some.inj H
            have p174 : 0 ≤ (x3_1 : Int) := of_decide_eq_true (by first | (with_reducible assumption) | assumption)
            have q174 : x3_1 < (l0.length : Int) := of_decide_eq_true (by first | (with_reducible assumption) | assumption)
            obtain ⟨ad174, A174_5, c174_5, A174_6, c174_6, A174_7, c174_7, e174, hx174_0, hx174_1, hx174_2, hx174_3, hx174_4, hx174_5, hx174_6, hx174_7, hl174_5, hi174_5, hl174_6, hi174_6, hl174_7, hi174_7⟩ := at_T37 HR0.out x3_1 p174 q174
            cases e174
            have HR174_5 := Aside0.mk hi174_5
            have HC174_5 := Aside0.mk hl174_5
            clear hi174_5 hl174_5
            have HR174_6 := Aside0.mk hi174_6
            have HC174_6 := Aside0.mk hl174_6
            clear hi174_6 hl174_6
            have HR174_7 := Aside0.mk hi174_7
            have HC174_7 := Aside0.mk hl174_7
            clear hi174_7 hl174_7
            replace p174 := eq_true p174
            replace q174 := eq_true q174
            go_wp2
            go_ret
            exact ⟨by first | rfl | (simp; done) | (simp [*]; done), ab15_⟩
          · rw [if_neg c4] at H
            have c4b0 : (((rd_T37 l0 x3_1).f0) == 3) = false := beq_eq_false_iff_ne.mpr c4
            have c4b1 : (((rd_T37 l0 x3_1).f0) != 3) = true := bne_iff_ne.mpr c4
            replace H := Option.bind_eq_some_iff.mp H
            obtain ⟨t176, A50, H⟩ := H
            replace H : (if t176 = true then ((spec_l12Plain.f k1 ((rd_T37 l0 x3_1).f5)).bind fun t178 => (if t178 = true then (spec_l12Plain.l0 k1 l0 (wrap64 (x3_1 + 1))) else (some false))) else (some false)) = some r := H
            have A5 := Aside0.mk A50
            clear A50
            by_cases c6 : t176 = true
            · subst c6
              have H1 : ((spec_l12Plain.f k1 ((rd_T37 l0 x3_1).f5)).bind fun t178 => (if t178 = true then (spec_l12Plain.l0 k1 l0 (wrap64 (x3_1 + 1))) else (some false))) = some r := by rw [if_pos rfl] at H; exact H
              clear H
              have H := H1
              clear H1
              replace H := Option.bind_eq_some_iff.mp H
              obtain ⟨t178, A70, H⟩ := H
              replace H : (if t178 = true then (spec_l12Plain.l0 k1 l0 (wrap64 (x3_1 + 1))) else (some false)) = some r := H
              have A7 := Aside0.mk A70
              clear A70
              by_cases c8 : t178 = true
              · subst c8
                have H1 : (spec_l12Plain.l0 k1 l0 (wrap64 (x3_1 + 1))) = some r := by rw [if_pos rfl] at H; exact H
                clear H
                have H := H1
                clear H1
                have H' := Aside0.mk H
                clear H
                have p174 : 0 ≤ (x3_1 : Int) := of_decide_eq_true (by first | (with_reducible assumption) | assumption)
                have q174 : x3_1 < (l0.length : Int) := of_decide_eq_true (by first | (with_reducible assumption) | assumption)
                obtain ⟨ad174, A174_5, c174_5, A174_6, c174_6, A174_7, c174_7, e174, hx174_0, hx174_1, hx174_2, hx174_3, hx174_4, hx174_5, hx174_6, hx174_7, hl174_5, hi174_5, hl174_6, hi174_6, hl174_7, hi174_7⟩ := at_T37 HR0.out x3_1 p174 q174
                cases e174
                have HR174_5 := Aside0.mk hi174_5
                have HC174_5 := Aside0.mk hl174_5
                clear hi174_5 hl174_5
                have HR174_6 := Aside0.mk hi174_6
                have HC174_6 := Aside0.mk hl174_6
                clear hi174_6 hl174_6
                have HR174_7 := Aside0.mk hi174_7
                have HC174_7 := Aside0.mk hl174_7
                clear hi174_7 hl174_7
                replace p174 := eq_true p174
                replace q174 := eq_true q174
                have p175 : 0 ≤ (x3_1 : Int) := of_decide_eq_true (by first | (with_reducible assumption) | assumption)
                have q175 : x3_1 < (l0.length : Int) := of_decide_eq_true (by first | (with_reducible assumption) | assumption)
                obtain ⟨ad175, A175_5, c175_5, A175_6, c175_6, A175_7, c175_7, e175, hx175_0, hx175_1, hx175_2, hx175_3, hx175_4, hx175_5, hx175_6, hx175_7, hl175_5, hi175_5, hl175_6, hi175_6, hl175_7, hi175_7⟩ := at_T37 HR0.out x3_1 p175 q175
                obtain rfl : ad174 = ad175 := (by injection e175)
                have HR175_5 := Aside0.mk hi175_5
                have HC175_5 := Aside0.mk hl175_5
                clear hi175_5 hl175_5
                have HR175_6 := Aside0.mk hi175_6
                have HC175_6 := Aside0.mk hl175_6
                clear hi175_6 hl175_6
                have HR175_7 := Aside0.mk hi175_7
                have HC175_7 := Aside0.mk hl175_7
                clear hi175_7 hl175_7
                replace p175 := eq_true p175
                replace q175 := eq_true q175
                have ea_ := Option.some.inj (hx174_5.symm.trans hx175_5)
                injection ea_ with ea_ en_ ec_
                subst ea_
                subst ec_
                clear en_
                have ea_ := Option.some.inj (hx174_6.symm.trans hx175_6)
                injection ea_ with ea_ en_ ec_
                subst ea_
                subst ec_
                clear en_
                have ea_ := Option.some.inj (hx174_7.symm.trans hx175_7)
                injection ea_ with ea_ en_ ec_
                subst ea_
                subst ec_
                clear en_
                go_wp2_with (first | (go_at_call 42; (with_reducible refine (ih k1 (by have := HK1.out; omega) _ _ ((rd_T37 l0 x3_1).f4) true _ ?side1 ?side2 A5.out).mono ?_); (case side1 => repeat (first | exact HR175_6.out | (with_reducible refine Kd.C_alloc ?_ _) | (with_reducible refine Kd.C_drewN ?_ _) | (with_reducible refine Kd.C_drew ?_))); (case side2 => exact HC175_6.out); rintro e w' ⟨rfl, ⟨nd, rfl⟩⟩; have p177 : 0 ≤ (x3_1 : Int) := of_decide_eq_true (by first | (with_reducible assumption) | assumption); have q177 : x3_1 < (l0.length : Int) := of_decide_eq_true (by first | (with_reducible assumption) | assumption); obtain ⟨ad177, A177_5, c177_5, A177_6, c177_6, A177_7, c177_7, e177, hx177_0, hx177_1, hx177_2, hx177_3, hx177_4, hx177_5, hx177_6, hx177_7, hl177_5, hi177_5, hl177_6, hi177_6, hl177_7, hi177_7⟩ := at_T37 HR0.out x3_1 p177 q177; obtain rfl : ad174 = ad177 := (by injection e177); have HR177_5 := Aside0.mk hi177_5; have HC177_5 := Aside0.mk hl177_5; clear hi177_5 hl177_5; have HR177_6 := Aside0.mk hi177_6; have HC177_6 := Aside0.mk hl177_6; clear hi177_6 hl177_6; have HR177_7 := Aside0.mk hi177_7; have HC177_7 := Aside0.mk hl177_7; clear hi177_7 hl177_7; replace p177 := eq_true p177; replace q177 := eq_true q177; have ea_ := Option.some.inj (hx174_5.symm.trans hx177_5); injection ea_ with ea_ en_ ec_; subst ea_; subst ec_; clear en_; have ea_ := Option.some.inj (hx174_6.symm.trans hx177_6); injection ea_ with ea_ en_ ec_; subst ea_; subst ec_; clear en_; have ea_ := Option.some.inj (hx174_7.symm.trans hx177_7); injection ea_ with ea_ en_ ec_; subst ea_; subst ec_; clear en_) | (go_at_call 42; (with_reducible refine (ih k1 (by have := HK1.out; omega) _ _ ((rd_T37 l0 x3_1).f5) true _ ?side1 ?side2 A7.out).mono ?_); (case side1 => repeat (first | exact HR177_7.out | (with_reducible refine Kd.C_alloc ?_ _) | (with_reducible refine Kd.C_drewN ?_ _) | (with_reducible refine Kd.C_drew ?_))); (case side2 => exact HC177_7.out); rintro e w' ⟨rfl, ⟨nd, rfl⟩⟩))
                go_roundg k1
                case measure => have := HK1.out; omega
                case rel => exact ⟨(wrap64 (x3_1 + 1)), (by first | rfl | (simp; done) | (simp [*]; done)), H', ⟨by have := HK1.out; omega⟩, ab15_⟩
              · replace c8 := Bool.eq_false_iff.mpr c8
                subst c8
                have H1 : (some false) = some r := by rw [if_neg (show ¬ (false = true) by decide)] at H; exact H
                clear H
                have H := H1
                clear H1
                obtain rfl := Option.some.inj H
                have p174 : 0 ≤ (x3_1 : Int) := of_decide_eq_true (by first | (with_reducible assumption) | assumption)
                have q174 : x3_1 < (l0.length : Int) := of_decide_eq_true (by first | (with_reducible assumption) | assumption)
                obtain ⟨ad174, A174_5, c174_5, A174_6, c174_6, A174_7, c174_7, e174, hx174_0, hx174_1, hx174_2, hx174_3, hx174_4, hx174_5, hx174_6, hx174_7, hl174_5, hi174_5, hl174_6, hi174_6, hl174_7, hi174_7⟩ := at_T37 HR0.out x3_1 p174 q174
                cases e174
                have HR174_5 := Aside0.mk hi174_5
                have HC174_5 := Aside0.mk hl174_5
                clear hi174_5 hl174_5
                have HR174_6 := Aside0.mk hi174_6
                have HC174_6 := Aside0.mk hl174_6
                clear hi174_6 hl174_6
                have HR174_7 := Aside0.mk hi174_7
                have HC174_7 := Aside0.mk hl174_7
                clear hi174_7 hl174_7
                replace p174 := eq_true p174
                replace q174 := eq_true q174
                have p175 : 0 ≤ (x3_1 : Int) := of_decide_eq_true (by first | (with_reducible assumption) | assumption)
                have q175 : x3_1 < (l0.length : Int) := of_decide_eq_true (by first | (with_reducible assumption) | assumption)
                obtain ⟨ad175, A175_5, c175_5, A175_6, c175_6, A175_7, c175_7, e175, hx175_0, hx175_1, hx175_2, hx175_3, hx175_4, hx175_5, hx175_6, hx175_7, hl175_5, hi175_5, hl175_6, hi175_6, hl175_7, hi175_7⟩ := at_T37 HR0.out x3_1 p175 q175
                obtain rfl : ad174 = ad175 := (by injection e175)
                have HR175_5 := Aside0.mk hi175_5
                have HC175_5 := Aside0.mk hl175_5
                clear hi175_5 hl175_5
                have HR175_6 := Aside0.mk hi175_6
                have HC175_6 := Aside0.mk hl175_6
                clear hi175_6 hl175_6
                have HR175_7 := Aside0.mk hi175_7
                have HC175_7 := Aside0.mk hl175_7
                clear hi175_7 hl175_7
                replace p175 := eq_true p175
                replace q175 := eq_true q175
                have ea_ := Option.some.inj (hx174_5.symm.trans hx175_5)
                injection ea_ with ea_ en_ ec_
                subst ea_
                subst ec_
                clear en_
                have ea_ := Option.some.inj (hx174_6.symm.trans hx175_6)
                injection ea_ with ea_ en_ ec_
                subst ea_
                subst ec_
                clear en_
                have ea_ := Option.some.inj (hx174_7.symm.trans hx175_7)
                injection ea_ with ea_ en_ ec_
                subst ea_
                subst ec_
                clear en_
                go_wp2_with (first | (go_at_call 42; (with_reducible refine (ih k1 (by have := HK1.out; omega) _ _ ((rd_T37 l0 x3_1).f4) true _ ?side1 ?side2 A5.out).mono ?_); (case side1 => repeat (first | exact HR175_6.out | (with_reducible refine Kd.C_alloc ?_ _) | (with_reducible refine Kd.C_drewN ?_ _) | (with_reducible refine Kd.C_drew ?_))); (case side2 => exact HC175_6.out); rintro e w' ⟨rfl, ⟨nd, rfl⟩⟩; have p177 : 0 ≤ (x3_1 : Int) := of_decide_eq_true (by first | (with_reducible assumption) | assumption); have q177 : x3_1 < (l0.length : Int) := of_decide_eq_true (by first | (with_reducible assumption) | assumption); obtain ⟨ad177, A177_5, c177_5, A177_6, c177_6, A177_7, c177_7, e177, hx177_0, hx177_1, hx177_2, hx177_3, hx177_4, hx177_5, hx177_6, hx177_7, hl177_5, hi177_5, hl177_6, hi177_6, hl177_7, hi177_7⟩ := at_T37 HR0.out x3_1 p177 q177; obtain rfl : ad174 = ad177 := (by injection e177); have HR177_5 := Aside0.mk hi177_5; have HC177_5 := Aside0.mk hl177_5; clear hi177_5 hl177_5; have HR177_6 := Aside0.mk hi177_6; have HC177_6 := Aside0.mk hl177_6; clear hi177_6 hl177_6; have HR177_7 := Aside0.mk hi177_7; have HC177_7 := Aside0.mk hl177_7; clear hi177_7 hl177_7; replace p177 := eq_true p177; replace q177 := eq_true q177; have ea_ := Option.some.inj (hx174_5.symm.trans hx177_5); injection ea_ with ea_ en_ ec_; subst ea_; subst ec_; clear en_; have ea_ := Option.some.inj (hx174_6.symm.trans hx177_6); injection ea_ with ea_ en_ ec_; subst ea_; subst ec_; clear en_; have ea_ := Option.some.inj (hx174_7.symm.trans hx177_7); injection ea_ with ea_ en_ ec_; subst ea_; subst ec_; clear en_) | (go_at_call 42; (with_reducible refine (ih k1 (by have := HK1.out; omega) _ _ ((rd_T37 l0 x3_1).f5) false _ ?side1 ?side2 A7.out).mono ?_); (case side1 => repeat (first | exact HR177_7.out | (with_reducible refine Kd.C_alloc ?_ _) | (with_reducible refine Kd.C_drewN ?_ _) | (with_reducible refine Kd.C_drew ?_))); (case side2 => exact HC177_7.out); rintro e w' ⟨rfl, ⟨nd, rfl⟩⟩))
                go_ret
                exact ⟨by first | rfl | (simp; done) | (simp [*]; done), ab15_⟩
            · replace c6 := Bool.eq_false_iff.mpr c6
              subst c6
              have H1 : (some false) = some r := by rw [if_neg (show ¬ (false = true) by decide)] at H; exact H
              clear H
              have H := H1
              clear H1
              obtain rfl := Option.some.inj H
              have p174 : 0 ≤ (x3_1 : Int) := of_decide_eq_true (by first | (with_reducible assumption) | assumption)
              have q174 : x3_1 < (l0.length : Int) := of_decide_eq_true (by first | (with_reducible assumption) | assumption)
              obtain ⟨ad174, A174_5, c174_5, A174_6, c174_6, A174_7, c174_7, e174, hx174_0, hx174_1, hx174_2, hx174_3, hx174_4, hx174_5, hx174_6, hx174_7, hl174_5, hi174_5, hl174_6, hi174_6, hl174_7, hi174_7⟩ := at_T37 HR0.out x3_1 p174 q174
              cases e174
              have HR174_5 := Aside0.mk hi174_5
              have HC174_5 := Aside0.mk hl174_5
              clear hi174_5 hl174_5
              have HR174_6 := Aside0.mk hi174_6
              have HC174_6 := Aside0.mk hl174_6
              clear hi174_6 hl174_6
              have HR174_7 := Aside0.mk hi174_7
              have HC174_7 := Aside0.mk hl174_7
              clear hi174_7 hl174_7
              replace p174 := eq_true p174
              replace q174 := eq_true q174
              have p175 : 0 ≤ (x3_1 : Int) := of_decide_eq_true (by first | (with_reducible assumption) | assumption)
              have q175 : x3_1 < (l0.length : Int) := of_decide_eq_true (by first | (with_reducible assumption) | assumption)
              obtain ⟨ad175, A175_5, c175_5, A175_6, c175_6, A175_7, c175_7, e175, hx175_0, hx175_1, hx175_2, hx175_3, hx175_4, hx175_5, hx175_6, hx175_7, hl175_5, hi175_5, hl175_6, hi175_6, hl175_7, hi175_7⟩ := at_T37 HR0.out x3_1 p175 q175
              obtain rfl : ad174 = ad175 := (by injection e175)
              have HR175_5 := Aside0.mk hi175_5
              have HC175_5 := Aside0.mk hl175_5
              clear hi175_5 hl175_5
              have HR175_6 := Aside0.mk hi175_6
              have HC175_6 := Aside0.mk hl175_6
              clear hi175_6 hl175_6
              have HR175_7 := Aside0.mk hi175_7
              have HC175_7 := Aside0.mk hl175_7
              clear hi175_7 hl175_7
              replace p175 := eq_true p175
              replace q175 := eq_true q175
              have ea_ := Option.some.inj (hx174_5.symm.trans hx175_5)
              injection ea_ with ea_ en_ ec_
              subst ea_
              subst ec_
              clear en_
              have ea_ := Option.some.inj (hx174_6.symm.trans hx175_6)
              injection ea_ with ea_ en_ ec_
              subst ea_
              subst ec_
              clear en_
              have ea_ := Option.some.inj (hx174_7.symm.trans hx175_7)
              injection ea_ with ea_ en_ ec_
              subst ea_
              subst ec_
              clear en_
              go_wp2_with (first | (go_at_call 42; (with_reducible refine (ih k1 (by have := HK1.out; omega) _ _ ((rd_T37 l0 x3_1).f4) false _ ?side1 ?side2 A5.out).mono ?_); (case side1 => repeat (first | exact HR175_6.out | (with_reducible refine Kd.C_alloc ?_ _) | (with_reducible refine Kd.C_drewN ?_ _) | (with_reducible refine Kd.C_drew ?_))); (case side2 => exact HC175_6.out); rintro e w' ⟨rfl, ⟨nd, rfl⟩⟩))
              go_ret
              exact ⟨by first | rfl | (simp; done) | (simp [*]; done), ab15_⟩
        · rw [if_neg c3] at H
          exact absurd H (by simp)
      · rw [if_neg c2] at H
        have c2b0 : decide (x3_1 < (l0.length : Int)) = false := decide_eq_false c2
        clear c2
        obtain rfl := Option.some.inj H
        go_wp2
        go_ret
        exact ⟨by first | rfl | (simp; done) | (simp [*]; done), ab15_⟩

end Go.Proofs.Ytpcbfcaacilghaa.PA

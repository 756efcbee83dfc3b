-- made by a program of this session (wip/myprint.py over the kit's print)
import Derived.Test.YtpcbfcaacilghaaV
import Derived.Test.YtpcbfcaacilghaaPAx0
import Derived.Test.YtpcbfcaacilghaaPAx1
import Derived.Test.YtpcbfcaacilghaaPAx8
import Derived.Test.YtpcbfcaacilghaaPAx9
namespace Go.Proofs.Ytpcbfcaacilghaa.PA
open Go.RowKit Go.Proofs.YtpcbfcaacilghaaW.PrintWords Go.Proofs.YtpcbfcaacilghaaW.PrintLast Go.Proofs.YtpcbfcaacilghaaW.PrintMore
attribute [local go_sem] max2_int min2_int max_two min_two max_three min_three max_four min_four   -- for this text's walks alone
set_option linter.unusedVariables false
set_option linter.unusedSimpArgs false

/-! ### impl_ProgramPlain: function 23 -/
theorem impl_ProgramPlain.mono : ∀ a b k, LeO (impl_ProgramPlain.f k a b) (impl_ProgramPlain.f (k + 1) a b) := by
  intro a b k
  unfold impl_ProgramPlain.f
  exact LeO.bind (impl_ProgramValid.mono _ _ _) (fun _ => LeO.ite (LeO.bind (impl_anyLoop.mono _ _ _) (fun _ => LeO.refl _)) (LeO.refl _))
set_option maxHeartbeats 8000000 in
set_option maxRecDepth 100000 in
theorem impl_ProgramPlain.calls (k : Nat) (A0_0 : Option Addr) (c0_0 : Nat) (l0_0 : List Int) (A0_1 : Option Addr) (c0_1 : Nat) (l0_1 : List (List S37)) (r : Bool) (w : World) (hr0_0 : Kd.C (Kd.int .i64) w A0_0 l0_0.length l0_0) (hc0_0 : l0_0.length ≤ c0_0) (hr0_1 : Kd.C (Kd.slice 37 k37) w A0_1 l0_1.length l0_1) (hc0_1 : l0_1.length ≤ c0_1) (h : impl_ProgramPlain.f k l0_0 l0_1 = some r) :
    Calls Try.prog 23 #[.agg #[.slice A0_0 l0_0.length c0_0, .slice A0_1 l0_1.length c0_1]] w fun e w' => e = .returned (.bool r) ∧ Below w.heap.size w w' := by
  unfold impl_ProgramPlain.f at h
  replace h := Option.bind_eq_some_iff.mp h
  obtain ⟨v, hv, h⟩ := h
  have HR0 := Aside0.mk hr0_0
  have HC0 := Aside0.mk hc0_0
  have HR1 := Aside0.mk hr0_1
  have HC1 := Aside0.mk hc0_1
  have HV := Aside0.mk hv
  clear hr0_0 hc0_0 hr0_1 hc0_1 hv
  cases v with
  | false =>
    rw [if_neg Bool.false_ne_true] at h
    obtain rfl := Option.some.inj h
    go_enter Try.func23, Try.ntmps23
    go_wp2_with (first | ((with_reducible refine gate_dst (N := 1) rfl ?_); refine box_event (N := 1) ?hg ?hd (cs := #[(.slice A0_0 l0_0.length c0_0), (.slice A0_1 l0_1.length c0_1)]) (t := 26) ?hr ?_; (case hd => rfl); (case hg => rfl); (case hr => first | (go_simp; done) | (go_simp; rfl)); intro g1 hg w1 hbox hb; have B := Aside0.mk hb; have X1 := Aside0.mk hbox; have yp0 : w1.cell? ⟨g1, 0, none⟩ = some (.slice A0_0 l0_0.length c0_0) := blk_cell X1.out 0; have yp1 : w1.cell? ⟨g1, 1, none⟩ = some (.slice A0_1 l0_1.length c0_1) := blk_cell X1.out 1; clear hb hbox hg) | ((with_reducible refine (impl_ProgramValid.calls k A0_0 c0_0 l0_0 A0_1 c0_1 l0_1 _ _ (Kd.C_below HR0.out B.out) HC0.out (Kd.C_below HR1.out B.out) HC1.out HV.out).mono ?_); rintro e w2 ⟨rfl, hb⟩; have b_ := Aside0.mk (below_step B.out hb); have x_ := Aside0.mk (blk_below X1.out hb); clear B X1 yp0 yp1; have B := b_; have X1 := x_; have yp0 : w2.cell? ⟨g1, 0, none⟩ = some (.slice A0_0 l0_0.length c0_0) := blk_cell X1.out 0; have yp1 : w2.cell? ⟨g1, 1, none⟩ = some (.slice A0_1 l0_1.length c0_1) := blk_cell X1.out 1; clear b_ x_ hb; (try dsimp only)) | fail)
    go_ret
    exact ⟨rfl, B.out⟩
  | true =>
    rw [if_pos rfl] at h
    replace h := Option.bind_eq_some_iff.mp h
    obtain ⟨b, hb, h⟩ := h
    obtain rfl := Option.some.inj h
    have HB1 := Aside0.mk hb
    clear hb h
    cases b with
    | true =>
      go_enter Try.func23, Try.ntmps23
      go_wp2_with (first | ((with_reducible refine gate_dst (N := 1) rfl ?_); refine box_event (N := 1) ?hg ?hd (cs := #[(.slice A0_0 l0_0.length c0_0), (.slice A0_1 l0_1.length c0_1)]) (t := 26) ?hr ?_; (case hd => rfl); (case hg => rfl); (case hr => first | (go_simp; done) | (go_simp; rfl)); intro g1 hg w1 hbox hb; have B := Aside0.mk hb; have X1 := Aside0.mk hbox; have yp0 : w1.cell? ⟨g1, 0, none⟩ = some (.slice A0_0 l0_0.length c0_0) := blk_cell X1.out 0; have yp1 : w1.cell? ⟨g1, 1, none⟩ = some (.slice A0_1 l0_1.length c0_1) := blk_cell X1.out 1; clear hb hbox hg) | ((with_reducible refine (impl_ProgramValid.calls k A0_0 c0_0 l0_0 A0_1 c0_1 l0_1 _ _ (Kd.C_below HR0.out B.out) HC0.out (Kd.C_below HR1.out B.out) HC1.out HV.out).mono ?_); rintro e w2 ⟨rfl, hb⟩; have b_ := Aside0.mk (below_step B.out hb); have x_ := Aside0.mk (blk_below X1.out hb); clear B X1 yp0 yp1; have B := b_; have X1 := x_; have yp0 : w2.cell? ⟨g1, 0, none⟩ = some (.slice A0_0 l0_0.length c0_0) := blk_cell X1.out 0; have yp1 : w2.cell? ⟨g1, 1, none⟩ = some (.slice A0_1 l0_1.length c0_1) := blk_cell X1.out 1; clear b_ x_ hb; (try dsimp only)) | ((with_reducible refine (any_cont k A0_1 c0_1 l0_1 _ _ (Kd.C_below HR1.out B.out) HC1.out HB1.out).mono ?_); rintro e w3 ⟨rfl, hb⟩; have b_ := Aside0.mk (below_step B.out hb); have x_ := Aside0.mk (blk_below X1.out hb); clear B X1 yp0 yp1; have B := b_; have X1 := x_; have yp0 : w3.cell? ⟨g1, 0, none⟩ = some (.slice A0_0 l0_0.length c0_0) := blk_cell X1.out 0; have yp1 : w3.cell? ⟨g1, 1, none⟩ = some (.slice A0_1 l0_1.length c0_1) := blk_cell X1.out 1; clear b_ x_ hb; (try dsimp only)) | fail)
      go_ret
      exact ⟨rfl, B.out⟩
    | false =>
      go_enter Try.func23, Try.ntmps23
      go_wp2_with (first | ((with_reducible refine gate_dst (N := 1) rfl ?_); refine box_event (N := 1) ?hg ?hd (cs := #[(.slice A0_0 l0_0.length c0_0), (.slice A0_1 l0_1.length c0_1)]) (t := 26) ?hr ?_; (case hd => rfl); (case hg => rfl); (case hr => first | (go_simp; done) | (go_simp; rfl)); intro g1 hg w1 hbox hb; have B := Aside0.mk hb; have X1 := Aside0.mk hbox; have yp0 : w1.cell? ⟨g1, 0, none⟩ = some (.slice A0_0 l0_0.length c0_0) := blk_cell X1.out 0; have yp1 : w1.cell? ⟨g1, 1, none⟩ = some (.slice A0_1 l0_1.length c0_1) := blk_cell X1.out 1; clear hb hbox hg) | ((with_reducible refine (impl_ProgramValid.calls k A0_0 c0_0 l0_0 A0_1 c0_1 l0_1 _ _ (Kd.C_below HR0.out B.out) HC0.out (Kd.C_below HR1.out B.out) HC1.out HV.out).mono ?_); rintro e w2 ⟨rfl, hb⟩; have b_ := Aside0.mk (below_step B.out hb); have x_ := Aside0.mk (blk_below X1.out hb); clear B X1 yp0 yp1; have B := b_; have X1 := x_; have yp0 : w2.cell? ⟨g1, 0, none⟩ = some (.slice A0_0 l0_0.length c0_0) := blk_cell X1.out 0; have yp1 : w2.cell? ⟨g1, 1, none⟩ = some (.slice A0_1 l0_1.length c0_1) := blk_cell X1.out 1; clear b_ x_ hb; (try dsimp only)) | ((with_reducible refine (any_cont k A0_1 c0_1 l0_1 _ _ (Kd.C_below HR1.out B.out) HC1.out HB1.out).mono ?_); rintro e w3 ⟨rfl, hb⟩; have b_ := Aside0.mk (below_step B.out hb); have x_ := Aside0.mk (blk_below X1.out hb); clear B X1 yp0 yp1; have B := b_; have X1 := x_; have yp0 : w3.cell? ⟨g1, 0, none⟩ = some (.slice A0_0 l0_0.length c0_0) := blk_cell X1.out 0; have yp1 : w3.cell? ⟨g1, 1, none⟩ = some (.slice A0_1 l0_1.length c0_1) := blk_cell X1.out 1; clear b_ x_ hb; (try dsimp only)) | fail)
      go_ret
      exact ⟨rfl, B.out⟩

/-! ### spec_l6In: function 34 -/
set_option maxHeartbeats 8000000 in
set_option maxRecDepth 100000 in
theorem spec_l6In.calls (a0 : Int) (a1 : Int) (a2 : Int) (r : Bool) (w : World) (h : spec_l6In.f a0 a1 a2 = some r) :
    Calls Try.prog 34 #[.int .i64 a0, .int .i64 a1, .int .i64 a2] w fun e w' => e = .returned (.bool r) ∧ Drawn0 w w' := by
  have H : (if a0 ≥ a1 then (some (decide (a0 ≤ a2))) else (some false)) = some r := h
  clear h
  by_cases c4 : a0 ≥ a1
  · rw [if_pos c4] at H
    have c4b0 : decide (a1 ≤ a0) = true := decide_eq_true c4
    clear c4
    obtain rfl := Option.some.inj H
    go_enter Try.func34, Try.ntmps34
    go_wp2
    go_ret
    exact ⟨by first | rfl | (simp; done) | (simp [*]; done), ab15_⟩
  · rw [if_neg c4] at H
    have c4b0 : decide (a1 ≤ a0) = false := decide_eq_false c4
    clear c4
    obtain rfl := Option.some.inj H
    go_enter Try.func34, Try.ntmps34
    go_wp2
    go_ret
    exact ⟨by first | rfl | (simp; done) | (simp [*]; done), ab15_⟩

/-! ### spec_l12Rooms: function 33 -/
theorem spec_l12Rooms.mono_l : ∀ k, (∀ y0 y1, LeO (spec_l12Rooms.l0 k y0 y1) (spec_l12Rooms.l0 (k + 1) y0 y1))
  | 0 => fun _ _ r h => by simp [spec_l12Rooms.l0] at h
  | k + 1 => by
    have ih0 := spec_l12Rooms.mono_l k
    · intro y0 y1
      unfold spec_l12Rooms.l0
      repeat' first
      | (with_reducible exact ih0 _ _)
      | (with_reducible exact LeO.refl _)
      | (with_reducible exact LeO.none _)
      | (with_reducible refine LeO.ite ?_ ?_)
      | (with_reducible refine LeO.bind ?_ (fun _ => ?_))
      | exact ih0 _ _
      | exact LeO.none _
      | refine LeO.ite ?_ ?_
      | refine LeO.bind ?_ (fun _ => ?_)
theorem spec_l12Rooms.mono : ∀ a0 k, LeO (spec_l12Rooms.f k a0) (spec_l12Rooms.f (k + 1) a0) := by
  intro a0 k
  have ih0 := spec_l12Rooms.mono_l k
  unfold spec_l12Rooms.f
  repeat' first
      | (with_reducible exact ih0 _ _)
      | (with_reducible exact LeO.refl _)
      | (with_reducible exact LeO.none _)
      | (with_reducible refine LeO.ite ?_ ?_)
      | (with_reducible refine LeO.bind ?_ (fun _ => ?_))
      | exact ih0 _ _
      | exact LeO.none _
      | refine LeO.ite ?_ ?_
      | refine LeO.bind ?_ (fun _ => ?_)
set_option maxHeartbeats 8000000 in
set_option maxRecDepth 100000 in
theorem spec_l12Rooms.calls (k : Nat) (A0 : Option Addr) (c0 : Nat) (l0 : List Int) (r : Bool) (w : World) (hr0 : Kd.C (Kd.int .i64) w A0 l0.length l0) (hc0 : l0.length ≤ c0) (h : spec_l12Rooms.f k l0 = some r) :
    Calls Try.prog 33 #[.slice A0 l0.length c0] w fun e w' => e = .returned (.bool r) ∧ Drawn0 w w' := by
  have HR0 := Aside0.mk hr0
  have HC0 := Aside0.mk hc0
  clear hr0 hc0
  have H : (spec_l12Rooms.l0 k l0 0) = some r := h
  clear h
  have H' := Aside0.mk H
  clear H
  go_enter Try.func33, Try.ntmps33
  go_wp2
  go_loopg [3] k (fun kq v3 w' => ∃ (x3_1 : Int), v3 = .int .i64 x3_1 ∧ Aside0 (spec_l12Rooms.l0 kq l0 x3_1 = some r) ∧ Aside0 (kq ≤ k) ∧ Drawn0 w w')
  case atStart => exact ⟨(0), (by first | rfl | (simp; done) | (simp [*]; done)), H', ⟨Nat.le_refl _⟩, ab15_⟩
  case round =>
    clear H'
    obtain ⟨x3_1, rfl, HA, HK1, ⟨m1, rfl⟩⟩ := hrel
    cases gk with
    | zero => exact absurd HA.out (by simp [spec_l12Rooms.l0])
    | succ k1 =>
      have H := HA.out
      clear HA
      simp only [spec_l12Rooms.l0] at H
      by_cases c2 : x3_1 < (l0.length : Int)
      · rw [if_pos c2] at H
        have c2b0 : decide (x3_1 < (l0.length : Int)) = true := decide_eq_true c2
        clear c2
        by_cases c3 : 0 ≤ x3_1
        · rw [if_pos c3] at H
          have c3b0 : decide (0 ≤ x3_1) = true := decide_eq_true c3
          clear c3
          replace H := Option.bind_eq_some_iff.mp H
          obtain ⟨t115, A40, H⟩ := H
          replace H : (if t115 = true then (spec_l12Rooms.l0 k1 l0 (wrap64 (x3_1 + 1))) else (some false)) = some r := H
          have A4 := Aside0.mk A40
          clear A40
          by_cases c5 : t115 = true
          · subst c5
            have H1 : (spec_l12Rooms.l0 k1 l0 (wrap64 (x3_1 + 1))) = some r := by rw [if_pos rfl] at H; exact H
            clear H
            have H := H1
            clear H1
            have H' := Aside0.mk H
            clear H
            have p114 : 0 ≤ (x3_1 : Int) := of_decide_eq_true (by first | (with_reducible assumption) | assumption)
            have q114 : x3_1 < (l0.length : Int) := of_decide_eq_true (by first | (with_reducible assumption) | assumption)
            obtain ⟨ad114, e114, hx114_0⟩ := Kd.at_int HR0.out x3_1 p114 q114
            cases e114
            replace p114 := eq_true p114
            replace q114 := eq_true q114
            go_wp2_with (first | ((with_reducible refine gate_callee (f := 34) rfl ?_); refine goesL_ (some 14) rfl rfl Try.func34 (by kernel_rfl) rfl #[.int .i64 (rd l0 x3_1), .int .i64 1, .int .i64 4] rfl ab2_ ?_; (with_reducible refine (spec_l6In.calls (rd l0 x3_1) 1 4 true _ A4.out).mono ?_); rintro e w' ⟨rfl, ⟨nd, rfl⟩⟩; refine ⟨_, rfl, ?_⟩))
            go_roundg k1
            case measure => have := HK1.out; omega
            case rel => exact ⟨(wrap64 (x3_1 + 1)), (by first | rfl | (simp; done) | (simp [*]; done)), H', ⟨by have := HK1.out; omega⟩, ab15_⟩
          · replace c5 := Bool.eq_false_iff.mpr c5
            subst c5
            have H1 : (some false) = some r := by rw [if_neg (show ¬ (false = true) by decide)] at H; exact H
            clear H
            have H := H1
            clear H1
            obtain rfl := Option.some.inj H
            have p114 : 0 ≤ (x3_1 : Int) := of_decide_eq_true (by first | (with_reducible assumption) | assumption)
            have q114 : x3_1 < (l0.length : Int) := of_decide_eq_true (by first | (with_reducible assumption) | assumption)
            obtain ⟨ad114, e114, hx114_0⟩ := Kd.at_int HR0.out x3_1 p114 q114
            cases e114
            replace p114 := eq_true p114
            replace q114 := eq_true q114
            go_wp2_with (first | ((with_reducible refine gate_callee (f := 34) rfl ?_); refine goesL_ (some 14) rfl rfl Try.func34 (by kernel_rfl) rfl #[.int .i64 (rd l0 x3_1), .int .i64 1, .int .i64 4] rfl ab2_ ?_; (with_reducible refine (spec_l6In.calls (rd l0 x3_1) 1 4 false _ A4.out).mono ?_); rintro e w' ⟨rfl, ⟨nd, rfl⟩⟩; refine ⟨_, rfl, ?_⟩))
            go_ret
            exact ⟨by first | rfl | (simp; done) | (simp [*]; done), ab15_⟩
        · rw [if_neg c3] at H
          exact absurd H (by simp)
      · rw [if_neg c2] at H
        have c2b0 : decide (x3_1 < (l0.length : Int)) = false := decide_eq_false c2
        clear c2
        obtain rfl := Option.some.inj H
        go_wp2
        go_ret
        exact ⟨by first | rfl | (simp; done) | (simp [*]; done), ab15_⟩

end Go.Proofs.Ytpcbfcaacilghaa.PA

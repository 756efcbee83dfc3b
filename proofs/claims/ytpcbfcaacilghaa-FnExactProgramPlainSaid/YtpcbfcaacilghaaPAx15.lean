-- made by a program of this session (wip/myprint.py over the kit's print)
import Derived.Test.YtpcbfcaacilghaaV
import Derived.Test.YtpcbfcaacilghaaPAx0
import Derived.Test.YtpcbfcaacilghaaPAx1
import Derived.Test.YtpcbfcaacilghaaPAx12
import Derived.Test.YtpcbfcaacilghaaPAx13
import Derived.Test.YtpcbfcaacilghaaPAx14
namespace Go.Proofs.Ytpcbfcaacilghaa.PA
open Go.RowKit Go.Proofs.YtpcbfcaacilghaaW.PrintWords Go.Proofs.YtpcbfcaacilghaaW.PrintLast Go.Proofs.YtpcbfcaacilghaaW.PrintMore
attribute [local go_sem] max2_int min2_int max_two min_two max_three min_three max_four min_four   -- for this text's walks alone
set_option linter.unusedVariables false
set_option linter.unusedSimpArgs false

/-! ### spec_l11Simple: function 73 -/
theorem spec_l11Simple.mono_l : ∀ k, (∀ y0 y1 y2 y3 y4 y5 y6 y7 y8, LeO (spec_l11Simple.j0 k y0 y1 y2 y3 y4 y5 y6 y7 y8) (spec_l11Simple.j0 (k + 1) y0 y1 y2 y3 y4 y5 y6 y7 y8))
  | 0 => fun _ _ _ _ _ _ _ _ _ r h => by simp [spec_l11Simple.j0] at h
  | k + 1 => by
    have ih0 := spec_l11Simple.mono_l k
    · intro y0 y1 y2 y3 y4 y5 y6 y7 y8
      unfold spec_l11Simple.j0
      repeat' first
      | (with_reducible exact ih0 _ _ _ _ _ _ _ _ _)
      | (with_reducible exact spec_ExprValid.mono _ _ _ _)
      | (with_reducible exact LeO.refl _)
      | (with_reducible exact LeO.none _)
      | (with_reducible refine LeO.ite ?_ ?_)
      | (with_reducible refine LeO.bind ?_ (fun _ => ?_))
      | exact ih0 _ _ _ _ _ _ _ _ _
      | exact spec_ExprValid.mono _ _ _ _
      | exact LeO.none _
      | refine LeO.ite ?_ ?_
      | refine LeO.bind ?_ (fun _ => ?_)
theorem spec_l11Simple.mono : ∀ a0 a1 a2 a3 a4 a5 a6 a7 k, LeO (spec_l11Simple.f k a0 a1 a2 a3 a4 a5 a6 a7) (spec_l11Simple.f (k + 1) a0 a1 a2 a3 a4 a5 a6 a7) := by
  intro a0 a1 a2 a3 a4 a5 a6 a7 k
  have ih0 := spec_l11Simple.mono_l k
  unfold spec_l11Simple.f
  repeat' first
      | (with_reducible exact ih0 _ _ _ _ _ _ _ _ _)
      | (with_reducible exact spec_ExprValid.mono _ _ _ _)
      | (with_reducible exact LeO.refl _)
      | (with_reducible exact LeO.none _)
      | (with_reducible refine LeO.ite ?_ ?_)
      | (with_reducible refine LeO.bind ?_ (fun _ => ?_))
      | exact ih0 _ _ _ _ _ _ _ _ _
      | exact spec_ExprValid.mono _ _ _ _
      | exact LeO.none _
      | refine LeO.ite ?_ ?_
      | refine LeO.bind ?_ (fun _ => ?_)
set_option maxHeartbeats 8000000 in
set_option maxRecDepth 100000 in
theorem spec_l11Simple.calls (k : Nat) (a0_0 : Int) (a0_1 : Int) (a0_2 : Int) (a0_3 : Int) (a0_4 : Int) (A0_5 : Option Addr) (c0_5 : Nat) (l0_5 : List (S34)) (A0_6 : Option Addr) (c0_6 : Nat) (l0_6 : List (S37)) (A0_7 : Option Addr) (c0_7 : Nat) (l0_7 : List (S37)) (r : Bool) (w : World) (hr0_5 : Kd.C k34 w A0_5 l0_5.length l0_5) (hc0_5 : l0_5.length ≤ c0_5) (hr0_6 : Kd.C k37 w A0_6 l0_6.length l0_6) (hc0_6 : l0_6.length ≤ c0_6) (hr0_7 : Kd.C k37 w A0_7 l0_7.length l0_7) (hc0_7 : l0_7.length ≤ c0_7) (h : spec_l11Simple.f k a0_0 a0_1 a0_2 a0_3 a0_4 l0_5 l0_6 l0_7 = some r) :
    Calls Try.prog 73 #[.agg #[.int .i64 a0_0, .int .i64 a0_1, .int .i64 a0_2, .int .i64 a0_3, .int .i64 a0_4, .slice A0_5 l0_5.length c0_5, .slice A0_6 l0_6.length c0_6, .slice A0_7 l0_7.length c0_7]] w fun e w' => e = .returned (.bool r) ∧ Below w.heap.size w w' := by
  have hu37 := Try.underlying37
  have hu34 := Try.underlying34
  have HR0_5 := Aside0.mk hr0_5
  have HC0_5 := Aside0.mk hc0_5
  clear hr0_5 hc0_5
  have HR0_6 := Aside0.mk hr0_6
  have HC0_6 := Aside0.mk hc0_6
  clear hr0_6 hc0_6
  have HR0_7 := Aside0.mk hr0_7
  have HC0_7 := Aside0.mk hc0_7
  clear hr0_7 hc0_7
  have HB := Aside0.mk (Below.refl w.heap.size w)
  have H : (if (l0_6.length : Int) > 0 then (spec_l11Simple.j0 k true a0_0 a0_1 a0_2 a0_3 a0_4 l0_5 l0_6 l0_7) else (spec_l11Simple.j0 k (decide ((l0_7.length : Int) > 0)) a0_0 a0_1 a0_2 a0_3 a0_4 l0_5 l0_6 l0_7)) = some r := h
  clear h
  have HC2 := Aside0.mk H
  clear H
  go_enter Try.func73, Try.ntmps73
  go_upto_region 1 with (first | ((with_reducible refine gate_dst (N := 1) rfl ?_); (try (refine gate_guard (by rfl) ?_; dsimp only)); refine box_event ?hg (N := 1) ?hd (cs := #[.int .i64 a0_0, .int .i64 a0_1, .int .i64 a0_2, .int .i64 a0_3, .int .i64 a0_4, .slice A0_5 l0_5.length c0_5, .slice A0_6 l0_6.length c0_6, .slice A0_7 l0_7.length c0_7]) (t := 37) ?hr ?_; (case hd => rfl); (case hg => rfl); (case hr => first | (go_simp; done) | (go_simp; rfl)); intro gb136 hg w3 hbox hb; have n0_ := Aside0.mk (below_step ab1_ hb); have n1_ := Aside0.mk (hbox); have n2_ := Aside0.mk ((by rw [hg]; exact (below_size ab1_) : w.heap.size ≤ gb136)); have n3_ := Aside0.mk ((by rw [hg]; exact (below_size ab1_) : w.heap.size ≤ gb136)); clear HB; have HB := n0_; have BK136 := n1_; have GW136 := n2_; have GE136 := n3_; clear n0_ n1_ n2_ n3_; clear hb hbox hg))
  (try simp only [Act.put, List.setIfInBounds_toArray, List.set_cons_zero, List.set_cons_succ])
  go_cut [12] (fun v12 wc => ∃ (kq : Nat) (x12_1 : Bool), v12 = .bool x12_1 ∧ Aside0 (spec_l11Simple.j0 kq x12_1 a0_0 a0_1 a0_2 a0_3 a0_4 l0_5 l0_6 l0_7 = some r) ∧ Aside0 (kq ≤ k) ∧ Aside0 (wc.heap[gb136]? = some (.cells #[.int .i64 a0_0, .int .i64 a0_1, .int .i64 a0_2, .int .i64 a0_3, .int .i64 a0_4, (.slice A0_5 l0_5.length c0_5), (.slice A0_6 l0_6.length c0_6), (.slice A0_7 l0_7.length c0_7)] 37 (0, 0))) ∧ Aside0 (Below w.heap.size w wc))
  case first =>
    have H := HC2.out
    clear HC2
    by_cases c4 : (l0_6.length : Int) > 0
    · rw [if_pos c4] at H
      have c4b0 : decide (0 < (l0_6.length : Int)) = true := decide_eq_true c4
      have c4b1 : decide (0 < l0_6.length) = true := decide_eq_true (by omega)
      clear c4
      (first | rw [c4b0] | (simp only [i64_w, i32_w]; rw [c4b0]) | skip)
      have H' := Aside0.mk H
      clear H
      have hcz5_0 : w3.cell? ⟨gb136, 0, none⟩ = some (.int .i64 a0_0) := (blk_cell BK136.out 0).trans rfl
      have hcz5_1 : w3.cell? ⟨gb136, 1, none⟩ = some (.int .i64 a0_1) := (blk_cell BK136.out 1).trans rfl
      have hcz5_2 : w3.cell? ⟨gb136, 2, none⟩ = some (.int .i64 a0_2) := (blk_cell BK136.out 2).trans rfl
      have hcz5_3 : w3.cell? ⟨gb136, 3, none⟩ = some (.int .i64 a0_3) := (blk_cell BK136.out 3).trans rfl
      have hcz5_4 : w3.cell? ⟨gb136, 4, none⟩ = some (.int .i64 a0_4) := (blk_cell BK136.out 4).trans rfl
      have hcz5_5 : w3.cell? ⟨gb136, 5, none⟩ = some (.slice A0_5 l0_5.length c0_5) := (blk_cell BK136.out 5).trans rfl
      have hcz5_6 : w3.cell? ⟨gb136, 6, none⟩ = some (.slice A0_6 l0_6.length c0_6) := (blk_cell BK136.out 6).trans rfl
      have hcz5_7 : w3.cell? ⟨gb136, 7, none⟩ = some (.slice A0_7 l0_7.length c0_7) := (blk_cell BK136.out 7).trans rfl
      have hfz5_0 := blk_frozen BK136.out 0
      have hfz5_1 := blk_frozen BK136.out 1
      have hfz5_2 := blk_frozen BK136.out 2
      have hfz5_3 := blk_frozen BK136.out 3
      have hfz5_4 := blk_frozen BK136.out 4
      have hfz5_5 := blk_frozen BK136.out 5
      have hfz5_6 := blk_frozen BK136.out 6
      have hfz5_7 := blk_frozen BK136.out 7
      go_wp2
      go_meet
      case rel => exact ⟨_, (true), (by first | rfl | (simp; done) | (simp [*]; done)), H', ⟨by first | omega | exact Nat.le_refl _⟩, ⟨by (with_reducible repeat (first | refine blk_drewN ?_ _ | refine blk_drew ?_ | refine blk_alloc ?_ _)); exact BK136.out⟩, ⟨ab3_⟩⟩
    · rw [if_neg c4] at H
      have c4b0 : decide (0 < (l0_6.length : Int)) = false := decide_eq_false c4
      have c4b1 : decide (0 < l0_6.length) = false := decide_eq_false (by omega)
      clear c4
      (first | rw [c4b0] | (simp only [i64_w, i32_w]; rw [c4b0]) | skip)
      have H' := Aside0.mk H
      clear H
      have hcz6_0 : w3.cell? ⟨gb136, 0, none⟩ = some (.int .i64 a0_0) := (blk_cell BK136.out 0).trans rfl
      have hcz6_1 : w3.cell? ⟨gb136, 1, none⟩ = some (.int .i64 a0_1) := (blk_cell BK136.out 1).trans rfl
      have hcz6_2 : w3.cell? ⟨gb136, 2, none⟩ = some (.int .i64 a0_2) := (blk_cell BK136.out 2).trans rfl
      have hcz6_3 : w3.cell? ⟨gb136, 3, none⟩ = some (.int .i64 a0_3) := (blk_cell BK136.out 3).trans rfl
      have hcz6_4 : w3.cell? ⟨gb136, 4, none⟩ = some (.int .i64 a0_4) := (blk_cell BK136.out 4).trans rfl
      have hcz6_5 : w3.cell? ⟨gb136, 5, none⟩ = some (.slice A0_5 l0_5.length c0_5) := (blk_cell BK136.out 5).trans rfl
      have hcz6_6 : w3.cell? ⟨gb136, 6, none⟩ = some (.slice A0_6 l0_6.length c0_6) := (blk_cell BK136.out 6).trans rfl
      have hcz6_7 : w3.cell? ⟨gb136, 7, none⟩ = some (.slice A0_7 l0_7.length c0_7) := (blk_cell BK136.out 7).trans rfl
      have hfz6_0 := blk_frozen BK136.out 0
      have hfz6_1 := blk_frozen BK136.out 1
      have hfz6_2 := blk_frozen BK136.out 2
      have hfz6_3 := blk_frozen BK136.out 3
      have hfz6_4 := blk_frozen BK136.out 4
      have hfz6_5 := blk_frozen BK136.out 5
      have hfz6_6 := blk_frozen BK136.out 6
      have hfz6_7 := blk_frozen BK136.out 7
      go_wp2
      go_meet
      case rel => exact ⟨_, (decide ((l0_7.length : Int) > 0)), (by first | rfl | (simp; done) | (simp [*]; done)), H', ⟨by first | omega | exact Nat.le_refl _⟩, ⟨by (with_reducible repeat (first | refine blk_drewN ?_ _ | refine blk_drew ?_ | refine blk_alloc ?_ _)); exact BK136.out⟩, ⟨ab3_⟩⟩
  case rest =>
    clear HC2
    try clear p2
    try clear c4
    try clear c4b0
    try clear c4b1
    try clear hcz5_0
    try clear hcz5_1
    try clear hcz5_2
    try clear hcz5_3
    try clear hcz5_4
    try clear hcz5_5
    try clear hcz5_6
    try clear hcz5_7
    try clear hcz6_0
    try clear hcz6_1
    try clear hcz6_2
    try clear hcz6_3
    try clear hcz6_4
    try clear hcz6_5
    try clear hcz6_6
    try clear hcz6_7
    try clear hfz5_0
    try clear hfz5_1
    try clear hfz5_2
    try clear hfz5_3
    try clear hfz5_4
    try clear hfz5_5
    try clear hfz5_6
    try clear hfz5_7
    try clear hfz6_0
    try clear hfz6_1
    try clear hfz6_2
    try clear hfz6_3
    try clear hfz6_4
    try clear hfz6_5
    try clear hfz6_6
    try clear hfz6_7
    obtain ⟨kq, x12_1, rfl, HA, HJ1, BK136, HB⟩ := hcut
    cases kq with
    | zero => exact absurd HA.out (by simp [spec_l11Simple.j0])
    | succ kj1 =>
      have H := HA.out
      clear HA
      simp only [spec_l11Simple.j0] at H
      by_cases c7 : x12_1 = true
      · subst c7
        have H1 : (some false) = some r := by rw [if_pos rfl] at H; exact H
        clear H
        have H := H1
        clear H1
        obtain rfl := Option.some.inj H
        go_wp2
        go_ret
        exact ⟨by first | rfl | (simp [errW_none, errW_some] <;> rfl) | (simp [*, errW_none, errW_some] <;> rfl), ab3_⟩
      · replace c7 := Bool.eq_false_iff.mpr c7
        subst c7
        have H1 : (if a0_0 = 1 then ((spec_l11Var.f a0_0 a0_1 a0_2 a0_3 a0_4 l0_5 l0_6 l0_7 true).bind fun t137 => (if t137 = true then ((spec_l11Box.f a0_0 a0_1 a0_2 a0_3 a0_4 l0_5 l0_6 l0_7 false).bind fun t138 => (if t138 = true then ((spec_ExprValid.f kj1 a0_3 a0_4 l0_5).bind fun t139 => (some t139)) else (some false))) else (some false))) else (if a0_0 = 4 then ((spec_l11Var.f a0_0 a0_1 a0_2 a0_3 a0_4 l0_5 l0_6 l0_7 false).bind fun t140 => (if t140 = true then ((spec_l11Box.f a0_0 a0_1 a0_2 a0_3 a0_4 l0_5 l0_6 l0_7 true).bind fun t141 => (if t141 = true then ((spec_ExprValid.f kj1 a0_3 a0_4 l0_5).bind fun t142 => (some t142)) else (some false))) else (some false))) else (if a0_0 = 5 then ((spec_l11Var.f a0_0 a0_1 a0_2 a0_3 a0_4 l0_5 l0_6 l0_7 true).bind fun t143 => (if t143 = true then ((spec_l11Box.f a0_0 a0_1 a0_2 a0_3 a0_4 l0_5 l0_6 l0_7 true).bind fun t144 => (if t144 = true then ((spec_l11Plain.f a0_3 a0_4 l0_5).bind fun t145 => (some t145)) else (some false))) else (some false))) else (if a0_0 = 6 then ((spec_l11Var.f a0_0 a0_1 a0_2 a0_3 a0_4 l0_5 l0_6 l0_7 false).bind fun t146 => (if t146 = true then ((spec_l11Box.f a0_0 a0_1 a0_2 a0_3 a0_4 l0_5 l0_6 l0_7 false).bind fun t147 => (if t147 = true then ((spec_l11Plain.f a0_3 a0_4 l0_5).bind fun t148 => (some t148)) else (some false))) else (some false))) else (if a0_0 = 7 then ((spec_l11Var.f a0_0 a0_1 a0_2 a0_3 a0_4 l0_5 l0_6 l0_7 false).bind fun t149 => (if t149 = true then ((spec_l11Box.f a0_0 a0_1 a0_2 a0_3 a0_4 l0_5 l0_6 l0_7 false).bind fun t150 => (if t150 = true then ((spec_ExprValid.f kj1 a0_3 a0_4 l0_5).bind fun t151 => (some t151)) else (some false))) else (some false))) else (some false)))))) = some r := by rw [if_neg (show ¬ (false = true) by decide)] at H; exact H
        clear H
        have H := H1
        clear H1
        by_cases c8 : a0_0 = 1
        · rw [if_pos c8] at H
          have c8b0 : (a0_0 == 1) = true := beq_iff_eq.mpr c8
          have c8b1 : (a0_0 != 1) = false := bne_eq_false_iff_eq.mpr c8
          clear c8
          replace H := Option.bind_eq_some_iff.mp H
          obtain ⟨t137, A90, H⟩ := H
          replace H : (if t137 = true then ((spec_l11Box.f a0_0 a0_1 a0_2 a0_3 a0_4 l0_5 l0_6 l0_7 false).bind fun t138 => (if t138 = true then ((spec_ExprValid.f kj1 a0_3 a0_4 l0_5).bind fun t139 => (some t139)) else (some false))) else (some false)) = some r := H
          have A9 := Aside0.mk A90
          clear A90
          by_cases c10 : t137 = true
          · subst c10
            have H1 : ((spec_l11Box.f a0_0 a0_1 a0_2 a0_3 a0_4 l0_5 l0_6 l0_7 false).bind fun t138 => (if t138 = true then ((spec_ExprValid.f kj1 a0_3 a0_4 l0_5).bind fun t139 => (some t139)) else (some false))) = some r := by rw [if_pos rfl] at H; exact H
            clear H
            have H := H1
            clear H1
            replace H := Option.bind_eq_some_iff.mp H
            obtain ⟨t138, A110, H⟩ := H
            replace H : (if t138 = true then ((spec_ExprValid.f kj1 a0_3 a0_4 l0_5).bind fun t139 => (some t139)) else (some false)) = some r := H
            have A11 := Aside0.mk A110
            clear A110
            by_cases c12 : t138 = true
            · subst c12
              have H1 : ((spec_ExprValid.f kj1 a0_3 a0_4 l0_5).bind fun t139 => (some t139)) = some r := by rw [if_pos rfl] at H; exact H
              clear H
              have H := H1
              clear H1
              replace H := Option.bind_eq_some_iff.mp H
              obtain ⟨t139, A130, H⟩ := H
              replace H : (some t139) = some r := H
              have A13 := Aside0.mk A130
              clear A130
              obtain rfl := Option.some.inj H
              have hcz14_0 : wc.cell? ⟨gb136, 0, none⟩ = some (.int .i64 a0_0) := (blk_cell BK136.out 0).trans rfl
              have hcz14_1 : wc.cell? ⟨gb136, 1, none⟩ = some (.int .i64 a0_1) := (blk_cell BK136.out 1).trans rfl
              have hcz14_2 : wc.cell? ⟨gb136, 2, none⟩ = some (.int .i64 a0_2) := (blk_cell BK136.out 2).trans rfl
              have hcz14_3 : wc.cell? ⟨gb136, 3, none⟩ = some (.int .i64 a0_3) := (blk_cell BK136.out 3).trans rfl
              have hcz14_4 : wc.cell? ⟨gb136, 4, none⟩ = some (.int .i64 a0_4) := (blk_cell BK136.out 4).trans rfl
              have hcz14_5 : wc.cell? ⟨gb136, 5, none⟩ = some (.slice A0_5 l0_5.length c0_5) := (blk_cell BK136.out 5).trans rfl
              have hcz14_6 : wc.cell? ⟨gb136, 6, none⟩ = some (.slice A0_6 l0_6.length c0_6) := (blk_cell BK136.out 6).trans rfl
              have hcz14_7 : wc.cell? ⟨gb136, 7, none⟩ = some (.slice A0_7 l0_7.length c0_7) := (blk_cell BK136.out 7).trans rfl
              have hfz14_0 := blk_frozen BK136.out 0
              have hfz14_1 := blk_frozen BK136.out 1
              have hfz14_2 := blk_frozen BK136.out 2
              have hfz14_3 := blk_frozen BK136.out 3
              have hfz14_4 := blk_frozen BK136.out 4
              have hfz14_5 := blk_frozen BK136.out 5
              have hfz14_6 := blk_frozen BK136.out 6
              have hfz14_7 := blk_frozen BK136.out 7
              go_wp2_with (first | ((with_reducible refine gate_callee (f := 74) rfl ?_); refine goesL_ (some 18) rfl rfl Try.func74 (by kernel_rfl) rfl #[.agg #[.int .i64 a0_0, .int .i64 a0_1, .int .i64 a0_2, .int .i64 a0_3, .int .i64 a0_4, .slice A0_5 l0_5.length c0_5, .slice A0_6 l0_6.length c0_6, .slice A0_7 l0_7.length c0_7], .bool true] rfl ab2_ ?_; (with_reducible refine (spec_l11Var.calls a0_0 a0_1 a0_2 a0_3 a0_4 _ _ l0_5 _ _ l0_6 _ _ l0_7 true true _ ?side1 ?side2 ?side3 ?side4 ?side5 ?side6 A9.out).mono ?_); (case side1 => repeat (first | exact (Kd.C_below HR0_5.out HB.out) | (with_reducible refine Kd.C_alloc ?_ _) | (with_reducible refine Kd.C_drewN ?_ _) | (with_reducible refine Kd.C_drew ?_))); (case side2 => exact HC0_5.out); (case side3 => repeat (first | exact (Kd.C_below HR0_6.out HB.out) | (with_reducible refine Kd.C_alloc ?_ _) | (with_reducible refine Kd.C_drewN ?_ _) | (with_reducible refine Kd.C_drew ?_))); (case side4 => exact HC0_6.out); (case side5 => repeat (first | exact (Kd.C_below HR0_7.out HB.out) | (with_reducible refine Kd.C_alloc ?_ _) | (with_reducible refine Kd.C_drewN ?_ _) | (with_reducible refine Kd.C_drew ?_))); (case side6 => exact HC0_7.out); rintro e w15 ⟨rfl, hb⟩; refine ⟨_, rfl, ?_⟩; have n0_ := Aside0.mk (blk_below (g := gb136) (o := .cells #[.int .i64 a0_0, .int .i64 a0_1, .int .i64 a0_2, .int .i64 a0_3, .int .i64 a0_4, .slice A0_5 l0_5.length c0_5, .slice A0_6 l0_6.length c0_6, .slice A0_7 l0_7.length c0_7] 37 (0, 0)) (aG_ BK136.out) hb); have n1_ := Aside0.mk (below_step ab3_ hb); clear BK136; clear HB; have BK136 := n0_; have HB := n1_; clear n0_ n1_; (try clear hb); (try clear hb2); (try clear hk); (try clear hi); have hcz16_0 : w15.cell? ⟨gb136, 0, none⟩ = some (.int .i64 a0_0) := (blk_cell BK136.out 0).trans rfl; have hcz16_1 : w15.cell? ⟨gb136, 1, none⟩ = some (.int .i64 a0_1) := (blk_cell BK136.out 1).trans rfl; have hcz16_2 : w15.cell? ⟨gb136, 2, none⟩ = some (.int .i64 a0_2) := (blk_cell BK136.out 2).trans rfl; have hcz16_3 : w15.cell? ⟨gb136, 3, none⟩ = some (.int .i64 a0_3) := (blk_cell BK136.out 3).trans rfl; have hcz16_4 : w15.cell? ⟨gb136, 4, none⟩ = some (.int .i64 a0_4) := (blk_cell BK136.out 4).trans rfl; have hcz16_5 : w15.cell? ⟨gb136, 5, none⟩ = some (.slice A0_5 l0_5.length c0_5) := (blk_cell BK136.out 5).trans rfl; have hcz16_6 : w15.cell? ⟨gb136, 6, none⟩ = some (.slice A0_6 l0_6.length c0_6) := (blk_cell BK136.out 6).trans rfl; have hcz16_7 : w15.cell? ⟨gb136, 7, none⟩ = some (.slice A0_7 l0_7.length c0_7) := (blk_cell BK136.out 7).trans rfl; have hfz16_0 := blk_frozen BK136.out 0; have hfz16_1 := blk_frozen BK136.out 1; have hfz16_2 := blk_frozen BK136.out 2; have hfz16_3 := blk_frozen BK136.out 3; have hfz16_4 := blk_frozen BK136.out 4; have hfz16_5 := blk_frozen BK136.out 5; have hfz16_6 := blk_frozen BK136.out 6; have hfz16_7 := blk_frozen BK136.out 7) | (go_at_call 75; (with_reducible refine (spec_l11Box.calls a0_0 a0_1 a0_2 a0_3 a0_4 _ _ l0_5 _ _ l0_6 _ _ l0_7 false true _ ?side1 ?side2 ?side3 ?side4 ?side5 ?side6 A11.out).mono ?_); (case side1 => repeat (first | exact (Kd.C_below HR0_5.out HB.out) | (with_reducible refine Kd.C_alloc ?_ _) | (with_reducible refine Kd.C_drewN ?_ _) | (with_reducible refine Kd.C_drew ?_))); (case side2 => exact HC0_5.out); (case side3 => repeat (first | exact (Kd.C_below HR0_6.out HB.out) | (with_reducible refine Kd.C_alloc ?_ _) | (with_reducible refine Kd.C_drewN ?_ _) | (with_reducible refine Kd.C_drew ?_))); (case side4 => exact HC0_6.out); (case side5 => repeat (first | exact (Kd.C_below HR0_7.out HB.out) | (with_reducible refine Kd.C_alloc ?_ _) | (with_reducible refine Kd.C_drewN ?_ _) | (with_reducible refine Kd.C_drew ?_))); (case side6 => exact HC0_7.out); rintro e w17 ⟨rfl, hb⟩; have n0_ := Aside0.mk (blk_below (g := gb136) (o := .cells #[.int .i64 a0_0, .int .i64 a0_1, .int .i64 a0_2, .int .i64 a0_3, .int .i64 a0_4, .slice A0_5 l0_5.length c0_5, .slice A0_6 l0_6.length c0_6, .slice A0_7 l0_7.length c0_7] 37 (0, 0)) (aG_ BK136.out) hb); have n1_ := Aside0.mk (below_step ab3_ hb); clear BK136; clear HB; have BK136 := n0_; have HB := n1_; clear n0_ n1_; (try clear hb); (try clear hb2); (try clear hk); (try clear hi); have hcz18_0 : w17.cell? ⟨gb136, 0, none⟩ = some (.int .i64 a0_0) := (blk_cell BK136.out 0).trans rfl; have hcz18_1 : w17.cell? ⟨gb136, 1, none⟩ = some (.int .i64 a0_1) := (blk_cell BK136.out 1).trans rfl; have hcz18_2 : w17.cell? ⟨gb136, 2, none⟩ = some (.int .i64 a0_2) := (blk_cell BK136.out 2).trans rfl; have hcz18_3 : w17.cell? ⟨gb136, 3, none⟩ = some (.int .i64 a0_3) := (blk_cell BK136.out 3).trans rfl; have hcz18_4 : w17.cell? ⟨gb136, 4, none⟩ = some (.int .i64 a0_4) := (blk_cell BK136.out 4).trans rfl; have hcz18_5 : w17.cell? ⟨gb136, 5, none⟩ = some (.slice A0_5 l0_5.length c0_5) := (blk_cell BK136.out 5).trans rfl; have hcz18_6 : w17.cell? ⟨gb136, 6, none⟩ = some (.slice A0_6 l0_6.length c0_6) := (blk_cell BK136.out 6).trans rfl; have hcz18_7 : w17.cell? ⟨gb136, 7, none⟩ = some (.slice A0_7 l0_7.length c0_7) := (blk_cell BK136.out 7).trans rfl; have hfz18_0 := blk_frozen BK136.out 0; have hfz18_1 := blk_frozen BK136.out 1; have hfz18_2 := blk_frozen BK136.out 2; have hfz18_3 := blk_frozen BK136.out 3; have hfz18_4 := blk_frozen BK136.out 4; have hfz18_5 := blk_frozen BK136.out 5; have hfz18_6 := blk_frozen BK136.out 6; have hfz18_7 := blk_frozen BK136.out 7) | (go_at_call 76; (with_reducible refine (spec_ExprValid.calls kj1 a0_3 a0_4 _ _ l0_5 t139 _ ?side1 ?side2 A13.out).mono ?_); (case side1 => repeat (first | exact (Kd.C_below HR0_5.out HB.out) | (with_reducible refine Kd.C_alloc ?_ _) | (with_reducible refine Kd.C_drewN ?_ _) | (with_reducible refine Kd.C_drew ?_))); (case side2 => exact HC0_5.out); rintro e w19 ⟨rfl, hb⟩; have n0_ := Aside0.mk (blk_below (g := gb136) (o := .cells #[.int .i64 a0_0, .int .i64 a0_1, .int .i64 a0_2, .int .i64 a0_3, .int .i64 a0_4, .slice A0_5 l0_5.length c0_5, .slice A0_6 l0_6.length c0_6, .slice A0_7 l0_7.length c0_7] 37 (0, 0)) (aG_ BK136.out) hb); have n1_ := Aside0.mk (below_step ab3_ hb); clear BK136; clear HB; have BK136 := n0_; have HB := n1_; clear n0_ n1_; (try clear hb); (try clear hb2); (try clear hk); (try clear hi)))
              go_ret
              exact ⟨by first | rfl | (simp [errW_none, errW_some] <;> rfl) | (simp [*, errW_none, errW_some] <;> rfl), ab3_⟩
            · replace c12 := Bool.eq_false_iff.mpr c12
              subst c12
              have H1 : (some false) = some r := by rw [if_neg (show ¬ (false = true) by decide)] at H; exact H
              clear H
              have H := H1
              clear H1
              obtain rfl := Option.some.inj H
              have hcz20_0 : wc.cell? ⟨gb136, 0, none⟩ = some (.int .i64 a0_0) := (blk_cell BK136.out 0).trans rfl
              have hcz20_1 : wc.cell? ⟨gb136, 1, none⟩ = some (.int .i64 a0_1) := (blk_cell BK136.out 1).trans rfl
              have hcz20_2 : wc.cell? ⟨gb136, 2, none⟩ = some (.int .i64 a0_2) := (blk_cell BK136.out 2).trans rfl
              have hcz20_3 : wc.cell? ⟨gb136, 3, none⟩ = some (.int .i64 a0_3) := (blk_cell BK136.out 3).trans rfl
              have hcz20_4 : wc.cell? ⟨gb136, 4, none⟩ = some (.int .i64 a0_4) := (blk_cell BK136.out 4).trans rfl
              have hcz20_5 : wc.cell? ⟨gb136, 5, none⟩ = some (.slice A0_5 l0_5.length c0_5) := (blk_cell BK136.out 5).trans rfl
              have hcz20_6 : wc.cell? ⟨gb136, 6, none⟩ = some (.slice A0_6 l0_6.length c0_6) := (blk_cell BK136.out 6).trans rfl
              have hcz20_7 : wc.cell? ⟨gb136, 7, none⟩ = some (.slice A0_7 l0_7.length c0_7) := (blk_cell BK136.out 7).trans rfl
              have hfz20_0 := blk_frozen BK136.out 0
              have hfz20_1 := blk_frozen BK136.out 1
              have hfz20_2 := blk_frozen BK136.out 2
              have hfz20_3 := blk_frozen BK136.out 3
              have hfz20_4 := blk_frozen BK136.out 4
              have hfz20_5 := blk_frozen BK136.out 5
              have hfz20_6 := blk_frozen BK136.out 6
              have hfz20_7 := blk_frozen BK136.out 7
              go_wp2_with (first | ((with_reducible refine gate_callee (f := 74) rfl ?_); refine goesL_ (some 18) rfl rfl Try.func74 (by kernel_rfl) rfl #[.agg #[.int .i64 a0_0, .int .i64 a0_1, .int .i64 a0_2, .int .i64 a0_3, .int .i64 a0_4, .slice A0_5 l0_5.length c0_5, .slice A0_6 l0_6.length c0_6, .slice A0_7 l0_7.length c0_7], .bool true] rfl ab2_ ?_; (with_reducible refine (spec_l11Var.calls a0_0 a0_1 a0_2 a0_3 a0_4 _ _ l0_5 _ _ l0_6 _ _ l0_7 true true _ ?side1 ?side2 ?side3 ?side4 ?side5 ?side6 A9.out).mono ?_); (case side1 => repeat (first | exact (Kd.C_below HR0_5.out HB.out) | (with_reducible refine Kd.C_alloc ?_ _) | (with_reducible refine Kd.C_drewN ?_ _) | (with_reducible refine Kd.C_drew ?_))); (case side2 => exact HC0_5.out); (case side3 => repeat (first | exact (Kd.C_below HR0_6.out HB.out) | (with_reducible refine Kd.C_alloc ?_ _) | (with_reducible refine Kd.C_drewN ?_ _) | (with_reducible refine Kd.C_drew ?_))); (case side4 => exact HC0_6.out); (case side5 => repeat (first | exact (Kd.C_below HR0_7.out HB.out) | (with_reducible refine Kd.C_alloc ?_ _) | (with_reducible refine Kd.C_drewN ?_ _) | (with_reducible refine Kd.C_drew ?_))); (case side6 => exact HC0_7.out); rintro e w21 ⟨rfl, hb⟩; refine ⟨_, rfl, ?_⟩; have n0_ := Aside0.mk (blk_below (g := gb136) (o := .cells #[.int .i64 a0_0, .int .i64 a0_1, .int .i64 a0_2, .int .i64 a0_3, .int .i64 a0_4, .slice A0_5 l0_5.length c0_5, .slice A0_6 l0_6.length c0_6, .slice A0_7 l0_7.length c0_7] 37 (0, 0)) (aG_ BK136.out) hb); have n1_ := Aside0.mk (below_step ab3_ hb); clear BK136; clear HB; have BK136 := n0_; have HB := n1_; clear n0_ n1_; (try clear hb); (try clear hb2); (try clear hk); (try clear hi); have hcz22_0 : w21.cell? ⟨gb136, 0, none⟩ = some (.int .i64 a0_0) := (blk_cell BK136.out 0).trans rfl; have hcz22_1 : w21.cell? ⟨gb136, 1, none⟩ = some (.int .i64 a0_1) := (blk_cell BK136.out 1).trans rfl; have hcz22_2 : w21.cell? ⟨gb136, 2, none⟩ = some (.int .i64 a0_2) := (blk_cell BK136.out 2).trans rfl; have hcz22_3 : w21.cell? ⟨gb136, 3, none⟩ = some (.int .i64 a0_3) := (blk_cell BK136.out 3).trans rfl; have hcz22_4 : w21.cell? ⟨gb136, 4, none⟩ = some (.int .i64 a0_4) := (blk_cell BK136.out 4).trans rfl; have hcz22_5 : w21.cell? ⟨gb136, 5, none⟩ = some (.slice A0_5 l0_5.length c0_5) := (blk_cell BK136.out 5).trans rfl; have hcz22_6 : w21.cell? ⟨gb136, 6, none⟩ = some (.slice A0_6 l0_6.length c0_6) := (blk_cell BK136.out 6).trans rfl; have hcz22_7 : w21.cell? ⟨gb136, 7, none⟩ = some (.slice A0_7 l0_7.length c0_7) := (blk_cell BK136.out 7).trans rfl; have hfz22_0 := blk_frozen BK136.out 0; have hfz22_1 := blk_frozen BK136.out 1; have hfz22_2 := blk_frozen BK136.out 2; have hfz22_3 := blk_frozen BK136.out 3; have hfz22_4 := blk_frozen BK136.out 4; have hfz22_5 := blk_frozen BK136.out 5; have hfz22_6 := blk_frozen BK136.out 6; have hfz22_7 := blk_frozen BK136.out 7) | (go_at_call 75; (with_reducible refine (spec_l11Box.calls a0_0 a0_1 a0_2 a0_3 a0_4 _ _ l0_5 _ _ l0_6 _ _ l0_7 false false _ ?side1 ?side2 ?side3 ?side4 ?side5 ?side6 A11.out).mono ?_); (case side1 => repeat (first | exact (Kd.C_below HR0_5.out HB.out) | (with_reducible refine Kd.C_alloc ?_ _) | (with_reducible refine Kd.C_drewN ?_ _) | (with_reducible refine Kd.C_drew ?_))); (case side2 => exact HC0_5.out); (case side3 => repeat (first | exact (Kd.C_below HR0_6.out HB.out) | (with_reducible refine Kd.C_alloc ?_ _) | (with_reducible refine Kd.C_drewN ?_ _) | (with_reducible refine Kd.C_drew ?_))); (case side4 => exact HC0_6.out); (case side5 => repeat (first | exact (Kd.C_below HR0_7.out HB.out) | (with_reducible refine Kd.C_alloc ?_ _) | (with_reducible refine Kd.C_drewN ?_ _) | (with_reducible refine Kd.C_drew ?_))); (case side6 => exact HC0_7.out); rintro e w23 ⟨rfl, hb⟩; have n0_ := Aside0.mk (blk_below (g := gb136) (o := .cells #[.int .i64 a0_0, .int .i64 a0_1, .int .i64 a0_2, .int .i64 a0_3, .int .i64 a0_4, .slice A0_5 l0_5.length c0_5, .slice A0_6 l0_6.length c0_6, .slice A0_7 l0_7.length c0_7] 37 (0, 0)) (aG_ BK136.out) hb); have n1_ := Aside0.mk (below_step ab3_ hb); clear BK136; clear HB; have BK136 := n0_; have HB := n1_; clear n0_ n1_; (try clear hb); (try clear hb2); (try clear hk); (try clear hi)))
              go_ret
              exact ⟨by first | rfl | (simp [errW_none, errW_some] <;> rfl) | (simp [*, errW_none, errW_some] <;> rfl), ab3_⟩
          · replace c10 := Bool.eq_false_iff.mpr c10
            subst c10
            have H1 : (some false) = some r := by rw [if_neg (show ¬ (false = true) by decide)] at H; exact H
            clear H
            have H := H1
            clear H1
            obtain rfl := Option.some.inj H
            have hcz24_0 : wc.cell? ⟨gb136, 0, none⟩ = some (.int .i64 a0_0) := (blk_cell BK136.out 0).trans rfl
            have hcz24_1 : wc.cell? ⟨gb136, 1, none⟩ = some (.int .i64 a0_1) := (blk_cell BK136.out 1).trans rfl
            have hcz24_2 : wc.cell? ⟨gb136, 2, none⟩ = some (.int .i64 a0_2) := (blk_cell BK136.out 2).trans rfl
            have hcz24_3 : wc.cell? ⟨gb136, 3, none⟩ = some (.int .i64 a0_3) := (blk_cell BK136.out 3).trans rfl
            have hcz24_4 : wc.cell? ⟨gb136, 4, none⟩ = some (.int .i64 a0_4) := (blk_cell BK136.out 4).trans rfl
            have hcz24_5 : wc.cell? ⟨gb136, 5, none⟩ = some (.slice A0_5 l0_5.length c0_5) := (blk_cell BK136.out 5).trans rfl
            have hcz24_6 : wc.cell? ⟨gb136, 6, none⟩ = some (.slice A0_6 l0_6.length c0_6) := (blk_cell BK136.out 6).trans rfl
            have hcz24_7 : wc.cell? ⟨gb136, 7, none⟩ = some (.slice A0_7 l0_7.length c0_7) := (blk_cell BK136.out 7).trans rfl
            have hfz24_0 := blk_frozen BK136.out 0
            have hfz24_1 := blk_frozen BK136.out 1
            have hfz24_2 := blk_frozen BK136.out 2
            have hfz24_3 := blk_frozen BK136.out 3
            have hfz24_4 := blk_frozen BK136.out 4
            have hfz24_5 := blk_frozen BK136.out 5
            have hfz24_6 := blk_frozen BK136.out 6
            have hfz24_7 := blk_frozen BK136.out 7
            go_wp2_with (first | ((with_reducible refine gate_callee (f := 74) rfl ?_); refine goesL_ (some 18) rfl rfl Try.func74 (by kernel_rfl) rfl #[.agg #[.int .i64 a0_0, .int .i64 a0_1, .int .i64 a0_2, .int .i64 a0_3, .int .i64 a0_4, .slice A0_5 l0_5.length c0_5, .slice A0_6 l0_6.length c0_6, .slice A0_7 l0_7.length c0_7], .bool true] rfl ab2_ ?_; (with_reducible refine (spec_l11Var.calls a0_0 a0_1 a0_2 a0_3 a0_4 _ _ l0_5 _ _ l0_6 _ _ l0_7 true false _ ?side1 ?side2 ?side3 ?side4 ?side5 ?side6 A9.out).mono ?_); (case side1 => repeat (first | exact (Kd.C_below HR0_5.out HB.out) | (with_reducible refine Kd.C_alloc ?_ _) | (with_reducible refine Kd.C_drewN ?_ _) | (with_reducible refine Kd.C_drew ?_))); (case side2 => exact HC0_5.out); (case side3 => repeat (first | exact (Kd.C_below HR0_6.out HB.out) | (with_reducible refine Kd.C_alloc ?_ _) | (with_reducible refine Kd.C_drewN ?_ _) | (with_reducible refine Kd.C_drew ?_))); (case side4 => exact HC0_6.out); (case side5 => repeat (first | exact (Kd.C_below HR0_7.out HB.out) | (with_reducible refine Kd.C_alloc ?_ _) | (with_reducible refine Kd.C_drewN ?_ _) | (with_reducible refine Kd.C_drew ?_))); (case side6 => exact HC0_7.out); rintro e w25 ⟨rfl, hb⟩; refine ⟨_, rfl, ?_⟩; have n0_ := Aside0.mk (blk_below (g := gb136) (o := .cells #[.int .i64 a0_0, .int .i64 a0_1, .int .i64 a0_2, .int .i64 a0_3, .int .i64 a0_4, .slice A0_5 l0_5.length c0_5, .slice A0_6 l0_6.length c0_6, .slice A0_7 l0_7.length c0_7] 37 (0, 0)) (aG_ BK136.out) hb); have n1_ := Aside0.mk (below_step ab3_ hb); clear BK136; clear HB; have BK136 := n0_; have HB := n1_; clear n0_ n1_; (try clear hb); (try clear hb2); (try clear hk); (try clear hi)))
            go_ret
            exact ⟨by first | rfl | (simp [errW_none, errW_some] <;> rfl) | (simp [*, errW_none, errW_some] <;> rfl), ab3_⟩
        · rw [if_neg c8] at H
          have c8b0 : (a0_0 == 1) = false := beq_eq_false_iff_ne.mpr c8
          have c8b1 : (a0_0 != 1) = true := bne_iff_ne.mpr c8
          by_cases c26 : a0_0 = 4
          · rw [if_pos c26] at H
            have c26b0 : (a0_0 == 4) = true := beq_iff_eq.mpr c26
            have c26b1 : (a0_0 != 4) = false := bne_eq_false_iff_eq.mpr c26
            clear c26
            replace H := Option.bind_eq_some_iff.mp H
            obtain ⟨t140, A270, H⟩ := H
            replace H : (if t140 = true then ((spec_l11Box.f a0_0 a0_1 a0_2 a0_3 a0_4 l0_5 l0_6 l0_7 true).bind fun t141 => (if t141 = true then ((spec_ExprValid.f kj1 a0_3 a0_4 l0_5).bind fun t142 => (some t142)) else (some false))) else (some false)) = some r := H
            have A27 := Aside0.mk A270
            clear A270
            by_cases c28 : t140 = true
            · subst c28
              have H1 : ((spec_l11Box.f a0_0 a0_1 a0_2 a0_3 a0_4 l0_5 l0_6 l0_7 true).bind fun t141 => (if t141 = true then ((spec_ExprValid.f kj1 a0_3 a0_4 l0_5).bind fun t142 => (some t142)) else (some false))) = some r := by rw [if_pos rfl] at H; exact H
              clear H
              have H := H1
              clear H1
              replace H := Option.bind_eq_some_iff.mp H
              obtain ⟨t141, A290, H⟩ := H
              replace H : (if t141 = true then ((spec_ExprValid.f kj1 a0_3 a0_4 l0_5).bind fun t142 => (some t142)) else (some false)) = some r := H
              have A29 := Aside0.mk A290
              clear A290
              by_cases c30 : t141 = true
              · subst c30
                have H1 : ((spec_ExprValid.f kj1 a0_3 a0_4 l0_5).bind fun t142 => (some t142)) = some r := by rw [if_pos rfl] at H; exact H
                clear H
                have H := H1
                clear H1
                replace H := Option.bind_eq_some_iff.mp H
                obtain ⟨t142, A310, H⟩ := H
                replace H : (some t142) = some r := H
                have A31 := Aside0.mk A310
                clear A310
                obtain rfl := Option.some.inj H
                have hcz32_0 : wc.cell? ⟨gb136, 0, none⟩ = some (.int .i64 a0_0) := (blk_cell BK136.out 0).trans rfl
                have hcz32_1 : wc.cell? ⟨gb136, 1, none⟩ = some (.int .i64 a0_1) := (blk_cell BK136.out 1).trans rfl
                have hcz32_2 : wc.cell? ⟨gb136, 2, none⟩ = some (.int .i64 a0_2) := (blk_cell BK136.out 2).trans rfl
                have hcz32_3 : wc.cell? ⟨gb136, 3, none⟩ = some (.int .i64 a0_3) := (blk_cell BK136.out 3).trans rfl
                have hcz32_4 : wc.cell? ⟨gb136, 4, none⟩ = some (.int .i64 a0_4) := (blk_cell BK136.out 4).trans rfl
                have hcz32_5 : wc.cell? ⟨gb136, 5, none⟩ = some (.slice A0_5 l0_5.length c0_5) := (blk_cell BK136.out 5).trans rfl
                have hcz32_6 : wc.cell? ⟨gb136, 6, none⟩ = some (.slice A0_6 l0_6.length c0_6) := (blk_cell BK136.out 6).trans rfl
                have hcz32_7 : wc.cell? ⟨gb136, 7, none⟩ = some (.slice A0_7 l0_7.length c0_7) := (blk_cell BK136.out 7).trans rfl
                have hfz32_0 := blk_frozen BK136.out 0
                have hfz32_1 := blk_frozen BK136.out 1
                have hfz32_2 := blk_frozen BK136.out 2
                have hfz32_3 := blk_frozen BK136.out 3
                have hfz32_4 := blk_frozen BK136.out 4
                have hfz32_5 := blk_frozen BK136.out 5
                have hfz32_6 := blk_frozen BK136.out 6
                have hfz32_7 := blk_frozen BK136.out 7
                go_wp2_with (first | ((with_reducible refine gate_callee (f := 74) rfl ?_); refine goesL_ (some 31) rfl rfl Try.func74 (by kernel_rfl) rfl #[.agg #[.int .i64 a0_0, .int .i64 a0_1, .int .i64 a0_2, .int .i64 a0_3, .int .i64 a0_4, .slice A0_5 l0_5.length c0_5, .slice A0_6 l0_6.length c0_6, .slice A0_7 l0_7.length c0_7], .bool false] rfl ab2_ ?_; (with_reducible refine (spec_l11Var.calls a0_0 a0_1 a0_2 a0_3 a0_4 _ _ l0_5 _ _ l0_6 _ _ l0_7 false true _ ?side1 ?side2 ?side3 ?side4 ?side5 ?side6 A27.out).mono ?_); (case side1 => repeat (first | exact (Kd.C_below HR0_5.out HB.out) | (with_reducible refine Kd.C_alloc ?_ _) | (with_reducible refine Kd.C_drewN ?_ _) | (with_reducible refine Kd.C_drew ?_))); (case side2 => exact HC0_5.out); (case side3 => repeat (first | exact (Kd.C_below HR0_6.out HB.out) | (with_reducible refine Kd.C_alloc ?_ _) | (with_reducible refine Kd.C_drewN ?_ _) | (with_reducible refine Kd.C_drew ?_))); (case side4 => exact HC0_6.out); (case side5 => repeat (first | exact (Kd.C_below HR0_7.out HB.out) | (with_reducible refine Kd.C_alloc ?_ _) | (with_reducible refine Kd.C_drewN ?_ _) | (with_reducible refine Kd.C_drew ?_))); (case side6 => exact HC0_7.out); rintro e w33 ⟨rfl, hb⟩; refine ⟨_, rfl, ?_⟩; have n0_ := Aside0.mk (blk_below (g := gb136) (o := .cells #[.int .i64 a0_0, .int .i64 a0_1, .int .i64 a0_2, .int .i64 a0_3, .int .i64 a0_4, .slice A0_5 l0_5.length c0_5, .slice A0_6 l0_6.length c0_6, .slice A0_7 l0_7.length c0_7] 37 (0, 0)) (aG_ BK136.out) hb); have n1_ := Aside0.mk (below_step ab3_ hb); clear BK136; clear HB; have BK136 := n0_; have HB := n1_; clear n0_ n1_; (try clear hb); (try clear hb2); (try clear hk); (try clear hi); have hcz34_0 : w33.cell? ⟨gb136, 0, none⟩ = some (.int .i64 a0_0) := (blk_cell BK136.out 0).trans rfl; have hcz34_1 : w33.cell? ⟨gb136, 1, none⟩ = some (.int .i64 a0_1) := (blk_cell BK136.out 1).trans rfl; have hcz34_2 : w33.cell? ⟨gb136, 2, none⟩ = some (.int .i64 a0_2) := (blk_cell BK136.out 2).trans rfl; have hcz34_3 : w33.cell? ⟨gb136, 3, none⟩ = some (.int .i64 a0_3) := (blk_cell BK136.out 3).trans rfl; have hcz34_4 : w33.cell? ⟨gb136, 4, none⟩ = some (.int .i64 a0_4) := (blk_cell BK136.out 4).trans rfl; have hcz34_5 : w33.cell? ⟨gb136, 5, none⟩ = some (.slice A0_5 l0_5.length c0_5) := (blk_cell BK136.out 5).trans rfl; have hcz34_6 : w33.cell? ⟨gb136, 6, none⟩ = some (.slice A0_6 l0_6.length c0_6) := (blk_cell BK136.out 6).trans rfl; have hcz34_7 : w33.cell? ⟨gb136, 7, none⟩ = some (.slice A0_7 l0_7.length c0_7) := (blk_cell BK136.out 7).trans rfl; have hfz34_0 := blk_frozen BK136.out 0; have hfz34_1 := blk_frozen BK136.out 1; have hfz34_2 := blk_frozen BK136.out 2; have hfz34_3 := blk_frozen BK136.out 3; have hfz34_4 := blk_frozen BK136.out 4; have hfz34_5 := blk_frozen BK136.out 5; have hfz34_6 := blk_frozen BK136.out 6; have hfz34_7 := blk_frozen BK136.out 7) | (go_at_call 75; (with_reducible refine (spec_l11Box.calls a0_0 a0_1 a0_2 a0_3 a0_4 _ _ l0_5 _ _ l0_6 _ _ l0_7 true true _ ?side1 ?side2 ?side3 ?side4 ?side5 ?side6 A29.out).mono ?_); (case side1 => repeat (first | exact (Kd.C_below HR0_5.out HB.out) | (with_reducible refine Kd.C_alloc ?_ _) | (with_reducible refine Kd.C_drewN ?_ _) | (with_reducible refine Kd.C_drew ?_))); (case side2 => exact HC0_5.out); (case side3 => repeat (first | exact (Kd.C_below HR0_6.out HB.out) | (with_reducible refine Kd.C_alloc ?_ _) | (with_reducible refine Kd.C_drewN ?_ _) | (with_reducible refine Kd.C_drew ?_))); (case side4 => exact HC0_6.out); (case side5 => repeat (first | exact (Kd.C_below HR0_7.out HB.out) | (with_reducible refine Kd.C_alloc ?_ _) | (with_reducible refine Kd.C_drewN ?_ _) | (with_reducible refine Kd.C_drew ?_))); (case side6 => exact HC0_7.out); rintro e w35 ⟨rfl, hb⟩; have n0_ := Aside0.mk (blk_below (g := gb136) (o := .cells #[.int .i64 a0_0, .int .i64 a0_1, .int .i64 a0_2, .int .i64 a0_3, .int .i64 a0_4, .slice A0_5 l0_5.length c0_5, .slice A0_6 l0_6.length c0_6, .slice A0_7 l0_7.length c0_7] 37 (0, 0)) (aG_ BK136.out) hb); have n1_ := Aside0.mk (below_step ab3_ hb); clear BK136; clear HB; have BK136 := n0_; have HB := n1_; clear n0_ n1_; (try clear hb); (try clear hb2); (try clear hk); (try clear hi); have hcz36_0 : w35.cell? ⟨gb136, 0, none⟩ = some (.int .i64 a0_0) := (blk_cell BK136.out 0).trans rfl; have hcz36_1 : w35.cell? ⟨gb136, 1, none⟩ = some (.int .i64 a0_1) := (blk_cell BK136.out 1).trans rfl; have hcz36_2 : w35.cell? ⟨gb136, 2, none⟩ = some (.int .i64 a0_2) := (blk_cell BK136.out 2).trans rfl; have hcz36_3 : w35.cell? ⟨gb136, 3, none⟩ = some (.int .i64 a0_3) := (blk_cell BK136.out 3).trans rfl; have hcz36_4 : w35.cell? ⟨gb136, 4, none⟩ = some (.int .i64 a0_4) := (blk_cell BK136.out 4).trans rfl; have hcz36_5 : w35.cell? ⟨gb136, 5, none⟩ = some (.slice A0_5 l0_5.length c0_5) := (blk_cell BK136.out 5).trans rfl; have hcz36_6 : w35.cell? ⟨gb136, 6, none⟩ = some (.slice A0_6 l0_6.length c0_6) := (blk_cell BK136.out 6).trans rfl; have hcz36_7 : w35.cell? ⟨gb136, 7, none⟩ = some (.slice A0_7 l0_7.length c0_7) := (blk_cell BK136.out 7).trans rfl; have hfz36_0 := blk_frozen BK136.out 0; have hfz36_1 := blk_frozen BK136.out 1; have hfz36_2 := blk_frozen BK136.out 2; have hfz36_3 := blk_frozen BK136.out 3; have hfz36_4 := blk_frozen BK136.out 4; have hfz36_5 := blk_frozen BK136.out 5; have hfz36_6 := blk_frozen BK136.out 6; have hfz36_7 := blk_frozen BK136.out 7) | (go_at_call 76; (with_reducible refine (spec_ExprValid.calls kj1 a0_3 a0_4 _ _ l0_5 t142 _ ?side1 ?side2 A31.out).mono ?_); (case side1 => repeat (first | exact (Kd.C_below HR0_5.out HB.out) | (with_reducible refine Kd.C_alloc ?_ _) | (with_reducible refine Kd.C_drewN ?_ _) | (with_reducible refine Kd.C_drew ?_))); (case side2 => exact HC0_5.out); rintro e w37 ⟨rfl, hb⟩; have n0_ := Aside0.mk (blk_below (g := gb136) (o := .cells #[.int .i64 a0_0, .int .i64 a0_1, .int .i64 a0_2, .int .i64 a0_3, .int .i64 a0_4, .slice A0_5 l0_5.length c0_5, .slice A0_6 l0_6.length c0_6, .slice A0_7 l0_7.length c0_7] 37 (0, 0)) (aG_ BK136.out) hb); have n1_ := Aside0.mk (below_step ab3_ hb); clear BK136; clear HB; have BK136 := n0_; have HB := n1_; clear n0_ n1_; (try clear hb); (try clear hb2); (try clear hk); (try clear hi)))
                go_ret
                exact ⟨by first | rfl | (simp [errW_none, errW_some] <;> rfl) | (simp [*, errW_none, errW_some] <;> rfl), ab3_⟩
              · replace c30 := Bool.eq_false_iff.mpr c30
                subst c30
                have H1 : (some false) = some r := by rw [if_neg (show ¬ (false = true) by decide)] at H; exact H
                clear H
                have H := H1
                clear H1
                obtain rfl := Option.some.inj H
                have hcz38_0 : wc.cell? ⟨gb136, 0, none⟩ = some (.int .i64 a0_0) := (blk_cell BK136.out 0).trans rfl
                have hcz38_1 : wc.cell? ⟨gb136, 1, none⟩ = some (.int .i64 a0_1) := (blk_cell BK136.out 1).trans rfl
                have hcz38_2 : wc.cell? ⟨gb136, 2, none⟩ = some (.int .i64 a0_2) := (blk_cell BK136.out 2).trans rfl
                have hcz38_3 : wc.cell? ⟨gb136, 3, none⟩ = some (.int .i64 a0_3) := (blk_cell BK136.out 3).trans rfl
                have hcz38_4 : wc.cell? ⟨gb136, 4, none⟩ = some (.int .i64 a0_4) := (blk_cell BK136.out 4).trans rfl
                have hcz38_5 : wc.cell? ⟨gb136, 5, none⟩ = some (.slice A0_5 l0_5.length c0_5) := (blk_cell BK136.out 5).trans rfl
                have hcz38_6 : wc.cell? ⟨gb136, 6, none⟩ = some (.slice A0_6 l0_6.length c0_6) := (blk_cell BK136.out 6).trans rfl
                have hcz38_7 : wc.cell? ⟨gb136, 7, none⟩ = some (.slice A0_7 l0_7.length c0_7) := (blk_cell BK136.out 7).trans rfl
                have hfz38_0 := blk_frozen BK136.out 0
                have hfz38_1 := blk_frozen BK136.out 1
                have hfz38_2 := blk_frozen BK136.out 2
                have hfz38_3 := blk_frozen BK136.out 3
                have hfz38_4 := blk_frozen BK136.out 4
                have hfz38_5 := blk_frozen BK136.out 5
                have hfz38_6 := blk_frozen BK136.out 6
                have hfz38_7 := blk_frozen BK136.out 7
                go_wp2_with (first | ((with_reducible refine gate_callee (f := 74) rfl ?_); refine goesL_ (some 31) rfl rfl Try.func74 (by kernel_rfl) rfl #[.agg #[.int .i64 a0_0, .int .i64 a0_1, .int .i64 a0_2, .int .i64 a0_3, .int .i64 a0_4, .slice A0_5 l0_5.length c0_5, .slice A0_6 l0_6.length c0_6, .slice A0_7 l0_7.length c0_7], .bool false] rfl ab2_ ?_; (with_reducible refine (spec_l11Var.calls a0_0 a0_1 a0_2 a0_3 a0_4 _ _ l0_5 _ _ l0_6 _ _ l0_7 false true _ ?side1 ?side2 ?side3 ?side4 ?side5 ?side6 A27.out).mono ?_); (case side1 => repeat (first | exact (Kd.C_below HR0_5.out HB.out) | (with_reducible refine Kd.C_alloc ?_ _) | (with_reducible refine Kd.C_drewN ?_ _) | (with_reducible refine Kd.C_drew ?_))); (case side2 => exact HC0_5.out); (case side3 => repeat (first | exact (Kd.C_below HR0_6.out HB.out) | (with_reducible refine Kd.C_alloc ?_ _) | (with_reducible refine Kd.C_drewN ?_ _) | (with_reducible refine Kd.C_drew ?_))); (case side4 => exact HC0_6.out); (case side5 => repeat (first | exact (Kd.C_below HR0_7.out HB.out) | (with_reducible refine Kd.C_alloc ?_ _) | (with_reducible refine Kd.C_drewN ?_ _) | (with_reducible refine Kd.C_drew ?_))); (case side6 => exact HC0_7.out); rintro e w39 ⟨rfl, hb⟩; refine ⟨_, rfl, ?_⟩; have n0_ := Aside0.mk (blk_below (g := gb136) (o := .cells #[.int .i64 a0_0, .int .i64 a0_1, .int .i64 a0_2, .int .i64 a0_3, .int .i64 a0_4, .slice A0_5 l0_5.length c0_5, .slice A0_6 l0_6.length c0_6, .slice A0_7 l0_7.length c0_7] 37 (0, 0)) (aG_ BK136.out) hb); have n1_ := Aside0.mk (below_step ab3_ hb); clear BK136; clear HB; have BK136 := n0_; have HB := n1_; clear n0_ n1_; (try clear hb); (try clear hb2); (try clear hk); (try clear hi); have hcz40_0 : w39.cell? ⟨gb136, 0, none⟩ = some (.int .i64 a0_0) := (blk_cell BK136.out 0).trans rfl; have hcz40_1 : w39.cell? ⟨gb136, 1, none⟩ = some (.int .i64 a0_1) := (blk_cell BK136.out 1).trans rfl; have hcz40_2 : w39.cell? ⟨gb136, 2, none⟩ = some (.int .i64 a0_2) := (blk_cell BK136.out 2).trans rfl; have hcz40_3 : w39.cell? ⟨gb136, 3, none⟩ = some (.int .i64 a0_3) := (blk_cell BK136.out 3).trans rfl; have hcz40_4 : w39.cell? ⟨gb136, 4, none⟩ = some (.int .i64 a0_4) := (blk_cell BK136.out 4).trans rfl; have hcz40_5 : w39.cell? ⟨gb136, 5, none⟩ = some (.slice A0_5 l0_5.length c0_5) := (blk_cell BK136.out 5).trans rfl; have hcz40_6 : w39.cell? ⟨gb136, 6, none⟩ = some (.slice A0_6 l0_6.length c0_6) := (blk_cell BK136.out 6).trans rfl; have hcz40_7 : w39.cell? ⟨gb136, 7, none⟩ = some (.slice A0_7 l0_7.length c0_7) := (blk_cell BK136.out 7).trans rfl; have hfz40_0 := blk_frozen BK136.out 0; have hfz40_1 := blk_frozen BK136.out 1; have hfz40_2 := blk_frozen BK136.out 2; have hfz40_3 := blk_frozen BK136.out 3; have hfz40_4 := blk_frozen BK136.out 4; have hfz40_5 := blk_frozen BK136.out 5; have hfz40_6 := blk_frozen BK136.out 6; have hfz40_7 := blk_frozen BK136.out 7) | (go_at_call 75; (with_reducible refine (spec_l11Box.calls a0_0 a0_1 a0_2 a0_3 a0_4 _ _ l0_5 _ _ l0_6 _ _ l0_7 true false _ ?side1 ?side2 ?side3 ?side4 ?side5 ?side6 A29.out).mono ?_); (case side1 => repeat (first | exact (Kd.C_below HR0_5.out HB.out) | (with_reducible refine Kd.C_alloc ?_ _) | (with_reducible refine Kd.C_drewN ?_ _) | (with_reducible refine Kd.C_drew ?_))); (case side2 => exact HC0_5.out); (case side3 => repeat (first | exact (Kd.C_below HR0_6.out HB.out) | (with_reducible refine Kd.C_alloc ?_ _) | (with_reducible refine Kd.C_drewN ?_ _) | (with_reducible refine Kd.C_drew ?_))); (case side4 => exact HC0_6.out); (case side5 => repeat (first | exact (Kd.C_below HR0_7.out HB.out) | (with_reducible refine Kd.C_alloc ?_ _) | (with_reducible refine Kd.C_drewN ?_ _) | (with_reducible refine Kd.C_drew ?_))); (case side6 => exact HC0_7.out); rintro e w41 ⟨rfl, hb⟩; have n0_ := Aside0.mk (blk_below (g := gb136) (o := .cells #[.int .i64 a0_0, .int .i64 a0_1, .int .i64 a0_2, .int .i64 a0_3, .int .i64 a0_4, .slice A0_5 l0_5.length c0_5, .slice A0_6 l0_6.length c0_6, .slice A0_7 l0_7.length c0_7] 37 (0, 0)) (aG_ BK136.out) hb); have n1_ := Aside0.mk (below_step ab3_ hb); clear BK136; clear HB; have BK136 := n0_; have HB := n1_; clear n0_ n1_; (try clear hb); (try clear hb2); (try clear hk); (try clear hi)))
                go_ret
                exact ⟨by first | rfl | (simp [errW_none, errW_some] <;> rfl) | (simp [*, errW_none, errW_some] <;> rfl), ab3_⟩
            · replace c28 := Bool.eq_false_iff.mpr c28
              subst c28
              have H1 : (some false) = some r := by rw [if_neg (show ¬ (false = true) by decide)] at H; exact H
              clear H
              have H := H1
              clear H1
              obtain rfl := Option.some.inj H
              have hcz42_0 : wc.cell? ⟨gb136, 0, none⟩ = some (.int .i64 a0_0) := (blk_cell BK136.out 0).trans rfl
              have hcz42_1 : wc.cell? ⟨gb136, 1, none⟩ = some (.int .i64 a0_1) := (blk_cell BK136.out 1).trans rfl
              have hcz42_2 : wc.cell? ⟨gb136, 2, none⟩ = some (.int .i64 a0_2) := (blk_cell BK136.out 2).trans rfl
              have hcz42_3 : wc.cell? ⟨gb136, 3, none⟩ = some (.int .i64 a0_3) := (blk_cell BK136.out 3).trans rfl
              have hcz42_4 : wc.cell? ⟨gb136, 4, none⟩ = some (.int .i64 a0_4) := (blk_cell BK136.out 4).trans rfl
              have hcz42_5 : wc.cell? ⟨gb136, 5, none⟩ = some (.slice A0_5 l0_5.length c0_5) := (blk_cell BK136.out 5).trans rfl
              have hcz42_6 : wc.cell? ⟨gb136, 6, none⟩ = some (.slice A0_6 l0_6.length c0_6) := (blk_cell BK136.out 6).trans rfl
              have hcz42_7 : wc.cell? ⟨gb136, 7, none⟩ = some (.slice A0_7 l0_7.length c0_7) := (blk_cell BK136.out 7).trans rfl
              have hfz42_0 := blk_frozen BK136.out 0
              have hfz42_1 := blk_frozen BK136.out 1
              have hfz42_2 := blk_frozen BK136.out 2
              have hfz42_3 := blk_frozen BK136.out 3
              have hfz42_4 := blk_frozen BK136.out 4
              have hfz42_5 := blk_frozen BK136.out 5
              have hfz42_6 := blk_frozen BK136.out 6
              have hfz42_7 := blk_frozen BK136.out 7
              go_wp2_with (first | ((with_reducible refine gate_callee (f := 74) rfl ?_); refine goesL_ (some 31) rfl rfl Try.func74 (by kernel_rfl) rfl #[.agg #[.int .i64 a0_0, .int .i64 a0_1, .int .i64 a0_2, .int .i64 a0_3, .int .i64 a0_4, .slice A0_5 l0_5.length c0_5, .slice A0_6 l0_6.length c0_6, .slice A0_7 l0_7.length c0_7], .bool false] rfl ab2_ ?_; (with_reducible refine (spec_l11Var.calls a0_0 a0_1 a0_2 a0_3 a0_4 _ _ l0_5 _ _ l0_6 _ _ l0_7 false false _ ?side1 ?side2 ?side3 ?side4 ?side5 ?side6 A27.out).mono ?_); (case side1 => repeat (first | exact (Kd.C_below HR0_5.out HB.out) | (with_reducible refine Kd.C_alloc ?_ _) | (with_reducible refine Kd.C_drewN ?_ _) | (with_reducible refine Kd.C_drew ?_))); (case side2 => exact HC0_5.out); (case side3 => repeat (first | exact (Kd.C_below HR0_6.out HB.out) | (with_reducible refine Kd.C_alloc ?_ _) | (with_reducible refine Kd.C_drewN ?_ _) | (with_reducible refine Kd.C_drew ?_))); (case side4 => exact HC0_6.out); (case side5 => repeat (first | exact (Kd.C_below HR0_7.out HB.out) | (with_reducible refine Kd.C_alloc ?_ _) | (with_reducible refine Kd.C_drewN ?_ _) | (with_reducible refine Kd.C_drew ?_))); (case side6 => exact HC0_7.out); rintro e w43 ⟨rfl, hb⟩; refine ⟨_, rfl, ?_⟩; have n0_ := Aside0.mk (blk_below (g := gb136) (o := .cells #[.int .i64 a0_0, .int .i64 a0_1, .int .i64 a0_2, .int .i64 a0_3, .int .i64 a0_4, .slice A0_5 l0_5.length c0_5, .slice A0_6 l0_6.length c0_6, .slice A0_7 l0_7.length c0_7] 37 (0, 0)) (aG_ BK136.out) hb); have n1_ := Aside0.mk (below_step ab3_ hb); clear BK136; clear HB; have BK136 := n0_; have HB := n1_; clear n0_ n1_; (try clear hb); (try clear hb2); (try clear hk); (try clear hi)))
              go_ret
              exact ⟨by first | rfl | (simp [errW_none, errW_some] <;> rfl) | (simp [*, errW_none, errW_some] <;> rfl), ab3_⟩
          · rw [if_neg c26] at H
            have c26b0 : (a0_0 == 4) = false := beq_eq_false_iff_ne.mpr c26
            have c26b1 : (a0_0 != 4) = true := bne_iff_ne.mpr c26
            by_cases c44 : a0_0 = 5
            · rw [if_pos c44] at H
              have c44b0 : (a0_0 == 5) = true := beq_iff_eq.mpr c44
              have c44b1 : (a0_0 != 5) = false := bne_eq_false_iff_eq.mpr c44
              clear c44
              replace H := Option.bind_eq_some_iff.mp H
              obtain ⟨t143, A450, H⟩ := H
              replace H : (if t143 = true then ((spec_l11Box.f a0_0 a0_1 a0_2 a0_3 a0_4 l0_5 l0_6 l0_7 true).bind fun t144 => (if t144 = true then ((spec_l11Plain.f a0_3 a0_4 l0_5).bind fun t145 => (some t145)) else (some false))) else (some false)) = some r := H
              have A45 := Aside0.mk A450
              clear A450
              by_cases c46 : t143 = true
              · subst c46
                have H1 : ((spec_l11Box.f a0_0 a0_1 a0_2 a0_3 a0_4 l0_5 l0_6 l0_7 true).bind fun t144 => (if t144 = true then ((spec_l11Plain.f a0_3 a0_4 l0_5).bind fun t145 => (some t145)) else (some false))) = some r := by rw [if_pos rfl] at H; exact H
                clear H
                have H := H1
                clear H1
                replace H := Option.bind_eq_some_iff.mp H
                obtain ⟨t144, A470, H⟩ := H
                replace H : (if t144 = true then ((spec_l11Plain.f a0_3 a0_4 l0_5).bind fun t145 => (some t145)) else (some false)) = some r := H
                have A47 := Aside0.mk A470
                clear A470
                by_cases c48 : t144 = true
                · subst c48
                  have H1 : ((spec_l11Plain.f a0_3 a0_4 l0_5).bind fun t145 => (some t145)) = some r := by rw [if_pos rfl] at H; exact H
                  clear H
                  have H := H1
                  clear H1
                  replace H := Option.bind_eq_some_iff.mp H
                  obtain ⟨t145, A490, H⟩ := H
                  replace H : (some t145) = some r := H
                  have A49 := Aside0.mk A490
                  clear A490
                  obtain rfl := Option.some.inj H
                  have hcz50_0 : wc.cell? ⟨gb136, 0, none⟩ = some (.int .i64 a0_0) := (blk_cell BK136.out 0).trans rfl
                  have hcz50_1 : wc.cell? ⟨gb136, 1, none⟩ = some (.int .i64 a0_1) := (blk_cell BK136.out 1).trans rfl
                  have hcz50_2 : wc.cell? ⟨gb136, 2, none⟩ = some (.int .i64 a0_2) := (blk_cell BK136.out 2).trans rfl
                  have hcz50_3 : wc.cell? ⟨gb136, 3, none⟩ = some (.int .i64 a0_3) := (blk_cell BK136.out 3).trans rfl
                  have hcz50_4 : wc.cell? ⟨gb136, 4, none⟩ = some (.int .i64 a0_4) := (blk_cell BK136.out 4).trans rfl
                  have hcz50_5 : wc.cell? ⟨gb136, 5, none⟩ = some (.slice A0_5 l0_5.length c0_5) := (blk_cell BK136.out 5).trans rfl
                  have hcz50_6 : wc.cell? ⟨gb136, 6, none⟩ = some (.slice A0_6 l0_6.length c0_6) := (blk_cell BK136.out 6).trans rfl
                  have hcz50_7 : wc.cell? ⟨gb136, 7, none⟩ = some (.slice A0_7 l0_7.length c0_7) := (blk_cell BK136.out 7).trans rfl
                  have hfz50_0 := blk_frozen BK136.out 0
                  have hfz50_1 := blk_frozen BK136.out 1
                  have hfz50_2 := blk_frozen BK136.out 2
                  have hfz50_3 := blk_frozen BK136.out 3
                  have hfz50_4 := blk_frozen BK136.out 4
                  have hfz50_5 := blk_frozen BK136.out 5
                  have hfz50_6 := blk_frozen BK136.out 6
                  have hfz50_7 := blk_frozen BK136.out 7
                  go_wp2_with (first | ((with_reducible refine gate_callee (f := 74) rfl ?_); refine goesL_ (some 44) rfl rfl Try.func74 (by kernel_rfl) rfl #[.agg #[.int .i64 a0_0, .int .i64 a0_1, .int .i64 a0_2, .int .i64 a0_3, .int .i64 a0_4, .slice A0_5 l0_5.length c0_5, .slice A0_6 l0_6.length c0_6, .slice A0_7 l0_7.length c0_7], .bool true] rfl ab2_ ?_; (with_reducible refine (spec_l11Var.calls a0_0 a0_1 a0_2 a0_3 a0_4 _ _ l0_5 _ _ l0_6 _ _ l0_7 true true _ ?side1 ?side2 ?side3 ?side4 ?side5 ?side6 A45.out).mono ?_); (case side1 => repeat (first | exact (Kd.C_below HR0_5.out HB.out) | (with_reducible refine Kd.C_alloc ?_ _) | (with_reducible refine Kd.C_drewN ?_ _) | (with_reducible refine Kd.C_drew ?_))); (case side2 => exact HC0_5.out); (case side3 => repeat (first | exact (Kd.C_below HR0_6.out HB.out) | (with_reducible refine Kd.C_alloc ?_ _) | (with_reducible refine Kd.C_drewN ?_ _) | (with_reducible refine Kd.C_drew ?_))); (case side4 => exact HC0_6.out); (case side5 => repeat (first | exact (Kd.C_below HR0_7.out HB.out) | (with_reducible refine Kd.C_alloc ?_ _) | (with_reducible refine Kd.C_drewN ?_ _) | (with_reducible refine Kd.C_drew ?_))); (case side6 => exact HC0_7.out); rintro e w51 ⟨rfl, hb⟩; refine ⟨_, rfl, ?_⟩; have n0_ := Aside0.mk (blk_below (g := gb136) (o := .cells #[.int .i64 a0_0, .int .i64 a0_1, .int .i64 a0_2, .int .i64 a0_3, .int .i64 a0_4, .slice A0_5 l0_5.length c0_5, .slice A0_6 l0_6.length c0_6, .slice A0_7 l0_7.length c0_7] 37 (0, 0)) (aG_ BK136.out) hb); have n1_ := Aside0.mk (below_step ab3_ hb); clear BK136; clear HB; have BK136 := n0_; have HB := n1_; clear n0_ n1_; (try clear hb); (try clear hb2); (try clear hk); (try clear hi); have hcz52_0 : w51.cell? ⟨gb136, 0, none⟩ = some (.int .i64 a0_0) := (blk_cell BK136.out 0).trans rfl; have hcz52_1 : w51.cell? ⟨gb136, 1, none⟩ = some (.int .i64 a0_1) := (blk_cell BK136.out 1).trans rfl; have hcz52_2 : w51.cell? ⟨gb136, 2, none⟩ = some (.int .i64 a0_2) := (blk_cell BK136.out 2).trans rfl; have hcz52_3 : w51.cell? ⟨gb136, 3, none⟩ = some (.int .i64 a0_3) := (blk_cell BK136.out 3).trans rfl; have hcz52_4 : w51.cell? ⟨gb136, 4, none⟩ = some (.int .i64 a0_4) := (blk_cell BK136.out 4).trans rfl; have hcz52_5 : w51.cell? ⟨gb136, 5, none⟩ = some (.slice A0_5 l0_5.length c0_5) := (blk_cell BK136.out 5).trans rfl; have hcz52_6 : w51.cell? ⟨gb136, 6, none⟩ = some (.slice A0_6 l0_6.length c0_6) := (blk_cell BK136.out 6).trans rfl; have hcz52_7 : w51.cell? ⟨gb136, 7, none⟩ = some (.slice A0_7 l0_7.length c0_7) := (blk_cell BK136.out 7).trans rfl; have hfz52_0 := blk_frozen BK136.out 0; have hfz52_1 := blk_frozen BK136.out 1; have hfz52_2 := blk_frozen BK136.out 2; have hfz52_3 := blk_frozen BK136.out 3; have hfz52_4 := blk_frozen BK136.out 4; have hfz52_5 := blk_frozen BK136.out 5; have hfz52_6 := blk_frozen BK136.out 6; have hfz52_7 := blk_frozen BK136.out 7) | (go_at_call 75; (with_reducible refine (spec_l11Box.calls a0_0 a0_1 a0_2 a0_3 a0_4 _ _ l0_5 _ _ l0_6 _ _ l0_7 true true _ ?side1 ?side2 ?side3 ?side4 ?side5 ?side6 A47.out).mono ?_); (case side1 => repeat (first | exact (Kd.C_below HR0_5.out HB.out) | (with_reducible refine Kd.C_alloc ?_ _) | (with_reducible refine Kd.C_drewN ?_ _) | (with_reducible refine Kd.C_drew ?_))); (case side2 => exact HC0_5.out); (case side3 => repeat (first | exact (Kd.C_below HR0_6.out HB.out) | (with_reducible refine Kd.C_alloc ?_ _) | (with_reducible refine Kd.C_drewN ?_ _) | (with_reducible refine Kd.C_drew ?_))); (case side4 => exact HC0_6.out); (case side5 => repeat (first | exact (Kd.C_below HR0_7.out HB.out) | (with_reducible refine Kd.C_alloc ?_ _) | (with_reducible refine Kd.C_drewN ?_ _) | (with_reducible refine Kd.C_drew ?_))); (case side6 => exact HC0_7.out); rintro e w53 ⟨rfl, hb⟩; have n0_ := Aside0.mk (blk_below (g := gb136) (o := .cells #[.int .i64 a0_0, .int .i64 a0_1, .int .i64 a0_2, .int .i64 a0_3, .int .i64 a0_4, .slice A0_5 l0_5.length c0_5, .slice A0_6 l0_6.length c0_6, .slice A0_7 l0_7.length c0_7] 37 (0, 0)) (aG_ BK136.out) hb); have n1_ := Aside0.mk (below_step ab3_ hb); clear BK136; clear HB; have BK136 := n0_; have HB := n1_; clear n0_ n1_; (try clear hb); (try clear hb2); (try clear hk); (try clear hi); have hcz54_0 : w53.cell? ⟨gb136, 0, none⟩ = some (.int .i64 a0_0) := (blk_cell BK136.out 0).trans rfl; have hcz54_1 : w53.cell? ⟨gb136, 1, none⟩ = some (.int .i64 a0_1) := (blk_cell BK136.out 1).trans rfl; have hcz54_2 : w53.cell? ⟨gb136, 2, none⟩ = some (.int .i64 a0_2) := (blk_cell BK136.out 2).trans rfl; have hcz54_3 : w53.cell? ⟨gb136, 3, none⟩ = some (.int .i64 a0_3) := (blk_cell BK136.out 3).trans rfl; have hcz54_4 : w53.cell? ⟨gb136, 4, none⟩ = some (.int .i64 a0_4) := (blk_cell BK136.out 4).trans rfl; have hcz54_5 : w53.cell? ⟨gb136, 5, none⟩ = some (.slice A0_5 l0_5.length c0_5) := (blk_cell BK136.out 5).trans rfl; have hcz54_6 : w53.cell? ⟨gb136, 6, none⟩ = some (.slice A0_6 l0_6.length c0_6) := (blk_cell BK136.out 6).trans rfl; have hcz54_7 : w53.cell? ⟨gb136, 7, none⟩ = some (.slice A0_7 l0_7.length c0_7) := (blk_cell BK136.out 7).trans rfl; have hfz54_0 := blk_frozen BK136.out 0; have hfz54_1 := blk_frozen BK136.out 1; have hfz54_2 := blk_frozen BK136.out 2; have hfz54_3 := blk_frozen BK136.out 3; have hfz54_4 := blk_frozen BK136.out 4; have hfz54_5 := blk_frozen BK136.out 5; have hfz54_6 := blk_frozen BK136.out 6; have hfz54_7 := blk_frozen BK136.out 7) | (go_at_call 82; (with_reducible refine (spec_l11Plain.calls a0_3 a0_4 _ _ l0_5 t145 _ ?side1 ?side2 A49.out).mono ?_); (case side1 => repeat (first | exact (Kd.C_below HR0_5.out HB.out) | (with_reducible refine Kd.C_alloc ?_ _) | (with_reducible refine Kd.C_drewN ?_ _) | (with_reducible refine Kd.C_drew ?_))); (case side2 => exact HC0_5.out); rintro e w55 ⟨rfl, hb⟩; have n0_ := Aside0.mk (blk_below (g := gb136) (o := .cells #[.int .i64 a0_0, .int .i64 a0_1, .int .i64 a0_2, .int .i64 a0_3, .int .i64 a0_4, .slice A0_5 l0_5.length c0_5, .slice A0_6 l0_6.length c0_6, .slice A0_7 l0_7.length c0_7] 37 (0, 0)) (aG_ BK136.out) hb); have n1_ := Aside0.mk (below_step ab3_ hb); clear BK136; clear HB; have BK136 := n0_; have HB := n1_; clear n0_ n1_; (try clear hb); (try clear hb2); (try clear hk); (try clear hi)))
                  go_ret
                  exact ⟨by first | rfl | (simp [errW_none, errW_some] <;> rfl) | (simp [*, errW_none, errW_some] <;> rfl), ab3_⟩
                · replace c48 := Bool.eq_false_iff.mpr c48
                  subst c48
                  have H1 : (some false) = some r := by rw [if_neg (show ¬ (false = true) by decide)] at H; exact H
                  clear H
                  have H := H1
                  clear H1
                  obtain rfl := Option.some.inj H
                  have hcz56_0 : wc.cell? ⟨gb136, 0, none⟩ = some (.int .i64 a0_0) := (blk_cell BK136.out 0).trans rfl
                  have hcz56_1 : wc.cell? ⟨gb136, 1, none⟩ = some (.int .i64 a0_1) := (blk_cell BK136.out 1).trans rfl
                  have hcz56_2 : wc.cell? ⟨gb136, 2, none⟩ = some (.int .i64 a0_2) := (blk_cell BK136.out 2).trans rfl
                  have hcz56_3 : wc.cell? ⟨gb136, 3, none⟩ = some (.int .i64 a0_3) := (blk_cell BK136.out 3).trans rfl
                  have hcz56_4 : wc.cell? ⟨gb136, 4, none⟩ = some (.int .i64 a0_4) := (blk_cell BK136.out 4).trans rfl
                  have hcz56_5 : wc.cell? ⟨gb136, 5, none⟩ = some (.slice A0_5 l0_5.length c0_5) := (blk_cell BK136.out 5).trans rfl
                  have hcz56_6 : wc.cell? ⟨gb136, 6, none⟩ = some (.slice A0_6 l0_6.length c0_6) := (blk_cell BK136.out 6).trans rfl
                  have hcz56_7 : wc.cell? ⟨gb136, 7, none⟩ = some (.slice A0_7 l0_7.length c0_7) := (blk_cell BK136.out 7).trans rfl
                  have hfz56_0 := blk_frozen BK136.out 0
                  have hfz56_1 := blk_frozen BK136.out 1
                  have hfz56_2 := blk_frozen BK136.out 2
                  have hfz56_3 := blk_frozen BK136.out 3
                  have hfz56_4 := blk_frozen BK136.out 4
                  have hfz56_5 := blk_frozen BK136.out 5
                  have hfz56_6 := blk_frozen BK136.out 6
                  have hfz56_7 := blk_frozen BK136.out 7
                  go_wp2_with (first | ((with_reducible refine gate_callee (f := 74) rfl ?_); refine goesL_ (some 44) rfl rfl Try.func74 (by kernel_rfl) rfl #[.agg #[.int .i64 a0_0, .int .i64 a0_1, .int .i64 a0_2, .int .i64 a0_3, .int .i64 a0_4, .slice A0_5 l0_5.length c0_5, .slice A0_6 l0_6.length c0_6, .slice A0_7 l0_7.length c0_7], .bool true] rfl ab2_ ?_; (with_reducible refine (spec_l11Var.calls a0_0 a0_1 a0_2 a0_3 a0_4 _ _ l0_5 _ _ l0_6 _ _ l0_7 true true _ ?side1 ?side2 ?side3 ?side4 ?side5 ?side6 A45.out).mono ?_); (case side1 => repeat (first | exact (Kd.C_below HR0_5.out HB.out) | (with_reducible refine Kd.C_alloc ?_ _) | (with_reducible refine Kd.C_drewN ?_ _) | (with_reducible refine Kd.C_drew ?_))); (case side2 => exact HC0_5.out); (case side3 => repeat (first | exact (Kd.C_below HR0_6.out HB.out) | (with_reducible refine Kd.C_alloc ?_ _) | (with_reducible refine Kd.C_drewN ?_ _) | (with_reducible refine Kd.C_drew ?_))); (case side4 => exact HC0_6.out); (case side5 => repeat (first | exact (Kd.C_below HR0_7.out HB.out) | (with_reducible refine Kd.C_alloc ?_ _) | (with_reducible refine Kd.C_drewN ?_ _) | (with_reducible refine Kd.C_drew ?_))); (case side6 => exact HC0_7.out); rintro e w57 ⟨rfl, hb⟩; refine ⟨_, rfl, ?_⟩; have n0_ := Aside0.mk (blk_below (g := gb136) (o := .cells #[.int .i64 a0_0, .int .i64 a0_1, .int .i64 a0_2, .int .i64 a0_3, .int .i64 a0_4, .slice A0_5 l0_5.length c0_5, .slice A0_6 l0_6.length c0_6, .slice A0_7 l0_7.length c0_7] 37 (0, 0)) (aG_ BK136.out) hb); have n1_ := Aside0.mk (below_step ab3_ hb); clear BK136; clear HB; have BK136 := n0_; have HB := n1_; clear n0_ n1_; (try clear hb); (try clear hb2); (try clear hk); (try clear hi); have hcz58_0 : w57.cell? ⟨gb136, 0, none⟩ = some (.int .i64 a0_0) := (blk_cell BK136.out 0).trans rfl; have hcz58_1 : w57.cell? ⟨gb136, 1, none⟩ = some (.int .i64 a0_1) := (blk_cell BK136.out 1).trans rfl; have hcz58_2 : w57.cell? ⟨gb136, 2, none⟩ = some (.int .i64 a0_2) := (blk_cell BK136.out 2).trans rfl; have hcz58_3 : w57.cell? ⟨gb136, 3, none⟩ = some (.int .i64 a0_3) := (blk_cell BK136.out 3).trans rfl; have hcz58_4 : w57.cell? ⟨gb136, 4, none⟩ = some (.int .i64 a0_4) := (blk_cell BK136.out 4).trans rfl; have hcz58_5 : w57.cell? ⟨gb136, 5, none⟩ = some (.slice A0_5 l0_5.length c0_5) := (blk_cell BK136.out 5).trans rfl; have hcz58_6 : w57.cell? ⟨gb136, 6, none⟩ = some (.slice A0_6 l0_6.length c0_6) := (blk_cell BK136.out 6).trans rfl; have hcz58_7 : w57.cell? ⟨gb136, 7, none⟩ = some (.slice A0_7 l0_7.length c0_7) := (blk_cell BK136.out 7).trans rfl; have hfz58_0 := blk_frozen BK136.out 0; have hfz58_1 := blk_frozen BK136.out 1; have hfz58_2 := blk_frozen BK136.out 2; have hfz58_3 := blk_frozen BK136.out 3; have hfz58_4 := blk_frozen BK136.out 4; have hfz58_5 := blk_frozen BK136.out 5; have hfz58_6 := blk_frozen BK136.out 6; have hfz58_7 := blk_frozen BK136.out 7) | (go_at_call 75; (with_reducible refine (spec_l11Box.calls a0_0 a0_1 a0_2 a0_3 a0_4 _ _ l0_5 _ _ l0_6 _ _ l0_7 true false _ ?side1 ?side2 ?side3 ?side4 ?side5 ?side6 A47.out).mono ?_); (case side1 => repeat (first | exact (Kd.C_below HR0_5.out HB.out) | (with_reducible refine Kd.C_alloc ?_ _) | (with_reducible refine Kd.C_drewN ?_ _) | (with_reducible refine Kd.C_drew ?_))); (case side2 => exact HC0_5.out); (case side3 => repeat (first | exact (Kd.C_below HR0_6.out HB.out) | (with_reducible refine Kd.C_alloc ?_ _) | (with_reducible refine Kd.C_drewN ?_ _) | (with_reducible refine Kd.C_drew ?_))); (case side4 => exact HC0_6.out); (case side5 => repeat (first | exact (Kd.C_below HR0_7.out HB.out) | (with_reducible refine Kd.C_alloc ?_ _) | (with_reducible refine Kd.C_drewN ?_ _) | (with_reducible refine Kd.C_drew ?_))); (case side6 => exact HC0_7.out); rintro e w59 ⟨rfl, hb⟩; have n0_ := Aside0.mk (blk_below (g := gb136) (o := .cells #[.int .i64 a0_0, .int .i64 a0_1, .int .i64 a0_2, .int .i64 a0_3, .int .i64 a0_4, .slice A0_5 l0_5.length c0_5, .slice A0_6 l0_6.length c0_6, .slice A0_7 l0_7.length c0_7] 37 (0, 0)) (aG_ BK136.out) hb); have n1_ := Aside0.mk (below_step ab3_ hb); clear BK136; clear HB; have BK136 := n0_; have HB := n1_; clear n0_ n1_; (try clear hb); (try clear hb2); (try clear hk); (try clear hi)))
                  go_ret
                  exact ⟨by first | rfl | (simp [errW_none, errW_some] <;> rfl) | (simp [*, errW_none, errW_some] <;> rfl), ab3_⟩
              · replace c46 := Bool.eq_false_iff.mpr c46
                subst c46
                have H1 : (some false) = some r := by rw [if_neg (show ¬ (false = true) by decide)] at H; exact H
                clear H
                have H := H1
                clear H1
                obtain rfl := Option.some.inj H
                have hcz60_0 : wc.cell? ⟨gb136, 0, none⟩ = some (.int .i64 a0_0) := (blk_cell BK136.out 0).trans rfl
                have hcz60_1 : wc.cell? ⟨gb136, 1, none⟩ = some (.int .i64 a0_1) := (blk_cell BK136.out 1).trans rfl
                have hcz60_2 : wc.cell? ⟨gb136, 2, none⟩ = some (.int .i64 a0_2) := (blk_cell BK136.out 2).trans rfl
                have hcz60_3 : wc.cell? ⟨gb136, 3, none⟩ = some (.int .i64 a0_3) := (blk_cell BK136.out 3).trans rfl
                have hcz60_4 : wc.cell? ⟨gb136, 4, none⟩ = some (.int .i64 a0_4) := (blk_cell BK136.out 4).trans rfl
                have hcz60_5 : wc.cell? ⟨gb136, 5, none⟩ = some (.slice A0_5 l0_5.length c0_5) := (blk_cell BK136.out 5).trans rfl
                have hcz60_6 : wc.cell? ⟨gb136, 6, none⟩ = some (.slice A0_6 l0_6.length c0_6) := (blk_cell BK136.out 6).trans rfl
                have hcz60_7 : wc.cell? ⟨gb136, 7, none⟩ = some (.slice A0_7 l0_7.length c0_7) := (blk_cell BK136.out 7).trans rfl
                have hfz60_0 := blk_frozen BK136.out 0
                have hfz60_1 := blk_frozen BK136.out 1
                have hfz60_2 := blk_frozen BK136.out 2
                have hfz60_3 := blk_frozen BK136.out 3
                have hfz60_4 := blk_frozen BK136.out 4
                have hfz60_5 := blk_frozen BK136.out 5
                have hfz60_6 := blk_frozen BK136.out 6
                have hfz60_7 := blk_frozen BK136.out 7
                go_wp2_with (first | ((with_reducible refine gate_callee (f := 74) rfl ?_); refine goesL_ (some 44) rfl rfl Try.func74 (by kernel_rfl) rfl #[.agg #[.int .i64 a0_0, .int .i64 a0_1, .int .i64 a0_2, .int .i64 a0_3, .int .i64 a0_4, .slice A0_5 l0_5.length c0_5, .slice A0_6 l0_6.length c0_6, .slice A0_7 l0_7.length c0_7], .bool true] rfl ab2_ ?_; (with_reducible refine (spec_l11Var.calls a0_0 a0_1 a0_2 a0_3 a0_4 _ _ l0_5 _ _ l0_6 _ _ l0_7 true false _ ?side1 ?side2 ?side3 ?side4 ?side5 ?side6 A45.out).mono ?_); (case side1 => repeat (first | exact (Kd.C_below HR0_5.out HB.out) | (with_reducible refine Kd.C_alloc ?_ _) | (with_reducible refine Kd.C_drewN ?_ _) | (with_reducible refine Kd.C_drew ?_))); (case side2 => exact HC0_5.out); (case side3 => repeat (first | exact (Kd.C_below HR0_6.out HB.out) | (with_reducible refine Kd.C_alloc ?_ _) | (with_reducible refine Kd.C_drewN ?_ _) | (with_reducible refine Kd.C_drew ?_))); (case side4 => exact HC0_6.out); (case side5 => repeat (first | exact (Kd.C_below HR0_7.out HB.out) | (with_reducible refine Kd.C_alloc ?_ _) | (with_reducible refine Kd.C_drewN ?_ _) | (with_reducible refine Kd.C_drew ?_))); (case side6 => exact HC0_7.out); rintro e w61 ⟨rfl, hb⟩; refine ⟨_, rfl, ?_⟩; have n0_ := Aside0.mk (blk_below (g := gb136) (o := .cells #[.int .i64 a0_0, .int .i64 a0_1, .int .i64 a0_2, .int .i64 a0_3, .int .i64 a0_4, .slice A0_5 l0_5.length c0_5, .slice A0_6 l0_6.length c0_6, .slice A0_7 l0_7.length c0_7] 37 (0, 0)) (aG_ BK136.out) hb); have n1_ := Aside0.mk (below_step ab3_ hb); clear BK136; clear HB; have BK136 := n0_; have HB := n1_; clear n0_ n1_; (try clear hb); (try clear hb2); (try clear hk); (try clear hi)))
                go_ret
                exact ⟨by first | rfl | (simp [errW_none, errW_some] <;> rfl) | (simp [*, errW_none, errW_some] <;> rfl), ab3_⟩
            · rw [if_neg c44] at H
              have c44b0 : (a0_0 == 5) = false := beq_eq_false_iff_ne.mpr c44
              have c44b1 : (a0_0 != 5) = true := bne_iff_ne.mpr c44
              by_cases c62 : a0_0 = 6
              · rw [if_pos c62] at H
                have c62b0 : (a0_0 == 6) = true := beq_iff_eq.mpr c62
                have c62b1 : (a0_0 != 6) = false := bne_eq_false_iff_eq.mpr c62
                clear c62
                replace H := Option.bind_eq_some_iff.mp H
                obtain ⟨t146, A630, H⟩ := H
                replace H : (if t146 = true then ((spec_l11Box.f a0_0 a0_1 a0_2 a0_3 a0_4 l0_5 l0_6 l0_7 false).bind fun t147 => (if t147 = true then ((spec_l11Plain.f a0_3 a0_4 l0_5).bind fun t148 => (some t148)) else (some false))) else (some false)) = some r := H
                have A63 := Aside0.mk A630
                clear A630
                by_cases c64 : t146 = true
                · subst c64
                  have H1 : ((spec_l11Box.f a0_0 a0_1 a0_2 a0_3 a0_4 l0_5 l0_6 l0_7 false).bind fun t147 => (if t147 = true then ((spec_l11Plain.f a0_3 a0_4 l0_5).bind fun t148 => (some t148)) else (some false))) = some r := by rw [if_pos rfl] at H; exact H
                  clear H
                  have H := H1
                  clear H1
                  replace H := Option.bind_eq_some_iff.mp H
                  obtain ⟨t147, A650, H⟩ := H
                  replace H : (if t147 = true then ((spec_l11Plain.f a0_3 a0_4 l0_5).bind fun t148 => (some t148)) else (some false)) = some r := H
                  have A65 := Aside0.mk A650
                  clear A650
                  by_cases c66 : t147 = true
                  · subst c66
                    have H1 : ((spec_l11Plain.f a0_3 a0_4 l0_5).bind fun t148 => (some t148)) = some r := by rw [if_pos rfl] at H; exact H
                    clear H
                    have H := H1
                    clear H1
                    replace H := Option.bind_eq_some_iff.mp H
                    obtain ⟨t148, A670, H⟩ := H
                    replace H : (some t148) = some r := H
                    have A67 := Aside0.mk A670
                    clear A670
                    obtain rfl := Option.some.inj H
                    have hcz68_0 : wc.cell? ⟨gb136, 0, none⟩ = some (.int .i64 a0_0) := (blk_cell BK136.out 0).trans rfl
                    have hcz68_1 : wc.cell? ⟨gb136, 1, none⟩ = some (.int .i64 a0_1) := (blk_cell BK136.out 1).trans rfl
                    have hcz68_2 : wc.cell? ⟨gb136, 2, none⟩ = some (.int .i64 a0_2) := (blk_cell BK136.out 2).trans rfl
                    have hcz68_3 : wc.cell? ⟨gb136, 3, none⟩ = some (.int .i64 a0_3) := (blk_cell BK136.out 3).trans rfl
                    have hcz68_4 : wc.cell? ⟨gb136, 4, none⟩ = some (.int .i64 a0_4) := (blk_cell BK136.out 4).trans rfl
                    have hcz68_5 : wc.cell? ⟨gb136, 5, none⟩ = some (.slice A0_5 l0_5.length c0_5) := (blk_cell BK136.out 5).trans rfl
                    have hcz68_6 : wc.cell? ⟨gb136, 6, none⟩ = some (.slice A0_6 l0_6.length c0_6) := (blk_cell BK136.out 6).trans rfl
                    have hcz68_7 : wc.cell? ⟨gb136, 7, none⟩ = some (.slice A0_7 l0_7.length c0_7) := (blk_cell BK136.out 7).trans rfl
                    have hfz68_0 := blk_frozen BK136.out 0
                    have hfz68_1 := blk_frozen BK136.out 1
                    have hfz68_2 := blk_frozen BK136.out 2
                    have hfz68_3 := blk_frozen BK136.out 3
                    have hfz68_4 := blk_frozen BK136.out 4
                    have hfz68_5 := blk_frozen BK136.out 5
                    have hfz68_6 := blk_frozen BK136.out 6
                    have hfz68_7 := blk_frozen BK136.out 7
                    go_wp2_with (first | ((with_reducible refine gate_callee (f := 74) rfl ?_); refine goesL_ (some 57) rfl rfl Try.func74 (by kernel_rfl) rfl #[.agg #[.int .i64 a0_0, .int .i64 a0_1, .int .i64 a0_2, .int .i64 a0_3, .int .i64 a0_4, .slice A0_5 l0_5.length c0_5, .slice A0_6 l0_6.length c0_6, .slice A0_7 l0_7.length c0_7], .bool false] rfl ab2_ ?_; (with_reducible refine (spec_l11Var.calls a0_0 a0_1 a0_2 a0_3 a0_4 _ _ l0_5 _ _ l0_6 _ _ l0_7 false true _ ?side1 ?side2 ?side3 ?side4 ?side5 ?side6 A63.out).mono ?_); (case side1 => repeat (first | exact (Kd.C_below HR0_5.out HB.out) | (with_reducible refine Kd.C_alloc ?_ _) | (with_reducible refine Kd.C_drewN ?_ _) | (with_reducible refine Kd.C_drew ?_))); (case side2 => exact HC0_5.out); (case side3 => repeat (first | exact (Kd.C_below HR0_6.out HB.out) | (with_reducible refine Kd.C_alloc ?_ _) | (with_reducible refine Kd.C_drewN ?_ _) | (with_reducible refine Kd.C_drew ?_))); (case side4 => exact HC0_6.out); (case side5 => repeat (first | exact (Kd.C_below HR0_7.out HB.out) | (with_reducible refine Kd.C_alloc ?_ _) | (with_reducible refine Kd.C_drewN ?_ _) | (with_reducible refine Kd.C_drew ?_))); (case side6 => exact HC0_7.out); rintro e w69 ⟨rfl, hb⟩; refine ⟨_, rfl, ?_⟩; have n0_ := Aside0.mk (blk_below (g := gb136) (o := .cells #[.int .i64 a0_0, .int .i64 a0_1, .int .i64 a0_2, .int .i64 a0_3, .int .i64 a0_4, .slice A0_5 l0_5.length c0_5, .slice A0_6 l0_6.length c0_6, .slice A0_7 l0_7.length c0_7] 37 (0, 0)) (aG_ BK136.out) hb); have n1_ := Aside0.mk (below_step ab3_ hb); clear BK136; clear HB; have BK136 := n0_; have HB := n1_; clear n0_ n1_; (try clear hb); (try clear hb2); (try clear hk); (try clear hi); have hcz70_0 : w69.cell? ⟨gb136, 0, none⟩ = some (.int .i64 a0_0) := (blk_cell BK136.out 0).trans rfl; have hcz70_1 : w69.cell? ⟨gb136, 1, none⟩ = some (.int .i64 a0_1) := (blk_cell BK136.out 1).trans rfl; have hcz70_2 : w69.cell? ⟨gb136, 2, none⟩ = some (.int .i64 a0_2) := (blk_cell BK136.out 2).trans rfl; have hcz70_3 : w69.cell? ⟨gb136, 3, none⟩ = some (.int .i64 a0_3) := (blk_cell BK136.out 3).trans rfl; have hcz70_4 : w69.cell? ⟨gb136, 4, none⟩ = some (.int .i64 a0_4) := (blk_cell BK136.out 4).trans rfl; have hcz70_5 : w69.cell? ⟨gb136, 5, none⟩ = some (.slice A0_5 l0_5.length c0_5) := (blk_cell BK136.out 5).trans rfl; have hcz70_6 : w69.cell? ⟨gb136, 6, none⟩ = some (.slice A0_6 l0_6.length c0_6) := (blk_cell BK136.out 6).trans rfl; have hcz70_7 : w69.cell? ⟨gb136, 7, none⟩ = some (.slice A0_7 l0_7.length c0_7) := (blk_cell BK136.out 7).trans rfl; have hfz70_0 := blk_frozen BK136.out 0; have hfz70_1 := blk_frozen BK136.out 1; have hfz70_2 := blk_frozen BK136.out 2; have hfz70_3 := blk_frozen BK136.out 3; have hfz70_4 := blk_frozen BK136.out 4; have hfz70_5 := blk_frozen BK136.out 5; have hfz70_6 := blk_frozen BK136.out 6; have hfz70_7 := blk_frozen BK136.out 7) | (go_at_call 75; (with_reducible refine (spec_l11Box.calls a0_0 a0_1 a0_2 a0_3 a0_4 _ _ l0_5 _ _ l0_6 _ _ l0_7 false true _ ?side1 ?side2 ?side3 ?side4 ?side5 ?side6 A65.out).mono ?_); (case side1 => repeat (first | exact (Kd.C_below HR0_5.out HB.out) | (with_reducible refine Kd.C_alloc ?_ _) | (with_reducible refine Kd.C_drewN ?_ _) | (with_reducible refine Kd.C_drew ?_))); (case side2 => exact HC0_5.out); (case side3 => repeat (first | exact (Kd.C_below HR0_6.out HB.out) | (with_reducible refine Kd.C_alloc ?_ _) | (with_reducible refine Kd.C_drewN ?_ _) | (with_reducible refine Kd.C_drew ?_))); (case side4 => exact HC0_6.out); (case side5 => repeat (first | exact (Kd.C_below HR0_7.out HB.out) | (with_reducible refine Kd.C_alloc ?_ _) | (with_reducible refine Kd.C_drewN ?_ _) | (with_reducible refine Kd.C_drew ?_))); (case side6 => exact HC0_7.out); rintro e w71 ⟨rfl, hb⟩; have n0_ := Aside0.mk (blk_below (g := gb136) (o := .cells #[.int .i64 a0_0, .int .i64 a0_1, .int .i64 a0_2, .int .i64 a0_3, .int .i64 a0_4, .slice A0_5 l0_5.length c0_5, .slice A0_6 l0_6.length c0_6, .slice A0_7 l0_7.length c0_7] 37 (0, 0)) (aG_ BK136.out) hb); have n1_ := Aside0.mk (below_step ab3_ hb); clear BK136; clear HB; have BK136 := n0_; have HB := n1_; clear n0_ n1_; (try clear hb); (try clear hb2); (try clear hk); (try clear hi); have hcz72_0 : w71.cell? ⟨gb136, 0, none⟩ = some (.int .i64 a0_0) := (blk_cell BK136.out 0).trans rfl; have hcz72_1 : w71.cell? ⟨gb136, 1, none⟩ = some (.int .i64 a0_1) := (blk_cell BK136.out 1).trans rfl; have hcz72_2 : w71.cell? ⟨gb136, 2, none⟩ = some (.int .i64 a0_2) := (blk_cell BK136.out 2).trans rfl; have hcz72_3 : w71.cell? ⟨gb136, 3, none⟩ = some (.int .i64 a0_3) := (blk_cell BK136.out 3).trans rfl; have hcz72_4 : w71.cell? ⟨gb136, 4, none⟩ = some (.int .i64 a0_4) := (blk_cell BK136.out 4).trans rfl; have hcz72_5 : w71.cell? ⟨gb136, 5, none⟩ = some (.slice A0_5 l0_5.length c0_5) := (blk_cell BK136.out 5).trans rfl; have hcz72_6 : w71.cell? ⟨gb136, 6, none⟩ = some (.slice A0_6 l0_6.length c0_6) := (blk_cell BK136.out 6).trans rfl; have hcz72_7 : w71.cell? ⟨gb136, 7, none⟩ = some (.slice A0_7 l0_7.length c0_7) := (blk_cell BK136.out 7).trans rfl; have hfz72_0 := blk_frozen BK136.out 0; have hfz72_1 := blk_frozen BK136.out 1; have hfz72_2 := blk_frozen BK136.out 2; have hfz72_3 := blk_frozen BK136.out 3; have hfz72_4 := blk_frozen BK136.out 4; have hfz72_5 := blk_frozen BK136.out 5; have hfz72_6 := blk_frozen BK136.out 6; have hfz72_7 := blk_frozen BK136.out 7) | (go_at_call 82; (with_reducible refine (spec_l11Plain.calls a0_3 a0_4 _ _ l0_5 t148 _ ?side1 ?side2 A67.out).mono ?_); (case side1 => repeat (first | exact (Kd.C_below HR0_5.out HB.out) | (with_reducible refine Kd.C_alloc ?_ _) | (with_reducible refine Kd.C_drewN ?_ _) | (with_reducible refine Kd.C_drew ?_))); (case side2 => exact HC0_5.out); rintro e w73 ⟨rfl, hb⟩; have n0_ := Aside0.mk (blk_below (g := gb136) (o := .cells #[.int .i64 a0_0, .int .i64 a0_1, .int .i64 a0_2, .int .i64 a0_3, .int .i64 a0_4, .slice A0_5 l0_5.length c0_5, .slice A0_6 l0_6.length c0_6, .slice A0_7 l0_7.length c0_7] 37 (0, 0)) (aG_ BK136.out) hb); have n1_ := Aside0.mk (below_step ab3_ hb); clear BK136; clear HB; have BK136 := n0_; have HB := n1_; clear n0_ n1_; (try clear hb); (try clear hb2); (try clear hk); (try clear hi)))
                    go_ret
                    exact ⟨by first | rfl | (simp [errW_none, errW_some] <;> rfl) | (simp [*, errW_none, errW_some] <;> rfl), ab3_⟩
                  · replace c66 := Bool.eq_false_iff.mpr c66
                    subst c66
                    have H1 : (some false) = some r := by rw [if_neg (show ¬ (false = true) by decide)] at H; exact H
                    clear H
                    have H := H1
                    clear H1
                    obtain rfl := Option.some.inj H
                    have hcz74_0 : wc.cell? ⟨gb136, 0, none⟩ = some (.int .i64 a0_0) := (blk_cell BK136.out 0).trans rfl
                    have hcz74_1 : wc.cell? ⟨gb136, 1, none⟩ = some (.int .i64 a0_1) := (blk_cell BK136.out 1).trans rfl
                    have hcz74_2 : wc.cell? ⟨gb136, 2, none⟩ = some (.int .i64 a0_2) := (blk_cell BK136.out 2).trans rfl
                    have hcz74_3 : wc.cell? ⟨gb136, 3, none⟩ = some (.int .i64 a0_3) := (blk_cell BK136.out 3).trans rfl
                    have hcz74_4 : wc.cell? ⟨gb136, 4, none⟩ = some (.int .i64 a0_4) := (blk_cell BK136.out 4).trans rfl
                    have hcz74_5 : wc.cell? ⟨gb136, 5, none⟩ = some (.slice A0_5 l0_5.length c0_5) := (blk_cell BK136.out 5).trans rfl
                    have hcz74_6 : wc.cell? ⟨gb136, 6, none⟩ = some (.slice A0_6 l0_6.length c0_6) := (blk_cell BK136.out 6).trans rfl
                    have hcz74_7 : wc.cell? ⟨gb136, 7, none⟩ = some (.slice A0_7 l0_7.length c0_7) := (blk_cell BK136.out 7).trans rfl
                    have hfz74_0 := blk_frozen BK136.out 0
                    have hfz74_1 := blk_frozen BK136.out 1
                    have hfz74_2 := blk_frozen BK136.out 2
                    have hfz74_3 := blk_frozen BK136.out 3
                    have hfz74_4 := blk_frozen BK136.out 4
                    have hfz74_5 := blk_frozen BK136.out 5
                    have hfz74_6 := blk_frozen BK136.out 6
                    have hfz74_7 := blk_frozen BK136.out 7
                    go_wp2_with (first | ((with_reducible refine gate_callee (f := 74) rfl ?_); refine goesL_ (some 57) rfl rfl Try.func74 (by kernel_rfl) rfl #[.agg #[.int .i64 a0_0, .int .i64 a0_1, .int .i64 a0_2, .int .i64 a0_3, .int .i64 a0_4, .slice A0_5 l0_5.length c0_5, .slice A0_6 l0_6.length c0_6, .slice A0_7 l0_7.length c0_7], .bool false] rfl ab2_ ?_; (with_reducible refine (spec_l11Var.calls a0_0 a0_1 a0_2 a0_3 a0_4 _ _ l0_5 _ _ l0_6 _ _ l0_7 false true _ ?side1 ?side2 ?side3 ?side4 ?side5 ?side6 A63.out).mono ?_); (case side1 => repeat (first | exact (Kd.C_below HR0_5.out HB.out) | (with_reducible refine Kd.C_alloc ?_ _) | (with_reducible refine Kd.C_drewN ?_ _) | (with_reducible refine Kd.C_drew ?_))); (case side2 => exact HC0_5.out); (case side3 => repeat (first | exact (Kd.C_below HR0_6.out HB.out) | (with_reducible refine Kd.C_alloc ?_ _) | (with_reducible refine Kd.C_drewN ?_ _) | (with_reducible refine Kd.C_drew ?_))); (case side4 => exact HC0_6.out); (case side5 => repeat (first | exact (Kd.C_below HR0_7.out HB.out) | (with_reducible refine Kd.C_alloc ?_ _) | (with_reducible refine Kd.C_drewN ?_ _) | (with_reducible refine Kd.C_drew ?_))); (case side6 => exact HC0_7.out); rintro e w75 ⟨rfl, hb⟩; refine ⟨_, rfl, ?_⟩; have n0_ := Aside0.mk (blk_below (g := gb136) (o := .cells #[.int .i64 a0_0, .int .i64 a0_1, .int .i64 a0_2, .int .i64 a0_3, .int .i64 a0_4, .slice A0_5 l0_5.length c0_5, .slice A0_6 l0_6.length c0_6, .slice A0_7 l0_7.length c0_7] 37 (0, 0)) (aG_ BK136.out) hb); have n1_ := Aside0.mk (below_step ab3_ hb); clear BK136; clear HB; have BK136 := n0_; have HB := n1_; clear n0_ n1_; (try clear hb); (try clear hb2); (try clear hk); (try clear hi); have hcz76_0 : w75.cell? ⟨gb136, 0, none⟩ = some (.int .i64 a0_0) := (blk_cell BK136.out 0).trans rfl; have hcz76_1 : w75.cell? ⟨gb136, 1, none⟩ = some (.int .i64 a0_1) := (blk_cell BK136.out 1).trans rfl; have hcz76_2 : w75.cell? ⟨gb136, 2, none⟩ = some (.int .i64 a0_2) := (blk_cell BK136.out 2).trans rfl; have hcz76_3 : w75.cell? ⟨gb136, 3, none⟩ = some (.int .i64 a0_3) := (blk_cell BK136.out 3).trans rfl; have hcz76_4 : w75.cell? ⟨gb136, 4, none⟩ = some (.int .i64 a0_4) := (blk_cell BK136.out 4).trans rfl; have hcz76_5 : w75.cell? ⟨gb136, 5, none⟩ = some (.slice A0_5 l0_5.length c0_5) := (blk_cell BK136.out 5).trans rfl; have hcz76_6 : w75.cell? ⟨gb136, 6, none⟩ = some (.slice A0_6 l0_6.length c0_6) := (blk_cell BK136.out 6).trans rfl; have hcz76_7 : w75.cell? ⟨gb136, 7, none⟩ = some (.slice A0_7 l0_7.length c0_7) := (blk_cell BK136.out 7).trans rfl; have hfz76_0 := blk_frozen BK136.out 0; have hfz76_1 := blk_frozen BK136.out 1; have hfz76_2 := blk_frozen BK136.out 2; have hfz76_3 := blk_frozen BK136.out 3; have hfz76_4 := blk_frozen BK136.out 4; have hfz76_5 := blk_frozen BK136.out 5; have hfz76_6 := blk_frozen BK136.out 6; have hfz76_7 := blk_frozen BK136.out 7) | (go_at_call 75; (with_reducible refine (spec_l11Box.calls a0_0 a0_1 a0_2 a0_3 a0_4 _ _ l0_5 _ _ l0_6 _ _ l0_7 false false _ ?side1 ?side2 ?side3 ?side4 ?side5 ?side6 A65.out).mono ?_); (case side1 => repeat (first | exact (Kd.C_below HR0_5.out HB.out) | (with_reducible refine Kd.C_alloc ?_ _) | (with_reducible refine Kd.C_drewN ?_ _) | (with_reducible refine Kd.C_drew ?_))); (case side2 => exact HC0_5.out); (case side3 => repeat (first | exact (Kd.C_below HR0_6.out HB.out) | (with_reducible refine Kd.C_alloc ?_ _) | (with_reducible refine Kd.C_drewN ?_ _) | (with_reducible refine Kd.C_drew ?_))); (case side4 => exact HC0_6.out); (case side5 => repeat (first | exact (Kd.C_below HR0_7.out HB.out) | (with_reducible refine Kd.C_alloc ?_ _) | (with_reducible refine Kd.C_drewN ?_ _) | (with_reducible refine Kd.C_drew ?_))); (case side6 => exact HC0_7.out); rintro e w77 ⟨rfl, hb⟩; have n0_ := Aside0.mk (blk_below (g := gb136) (o := .cells #[.int .i64 a0_0, .int .i64 a0_1, .int .i64 a0_2, .int .i64 a0_3, .int .i64 a0_4, .slice A0_5 l0_5.length c0_5, .slice A0_6 l0_6.length c0_6, .slice A0_7 l0_7.length c0_7] 37 (0, 0)) (aG_ BK136.out) hb); have n1_ := Aside0.mk (below_step ab3_ hb); clear BK136; clear HB; have BK136 := n0_; have HB := n1_; clear n0_ n1_; (try clear hb); (try clear hb2); (try clear hk); (try clear hi)))
                    go_ret
                    exact ⟨by first | rfl | (simp [errW_none, errW_some] <;> rfl) | (simp [*, errW_none, errW_some] <;> rfl), ab3_⟩
                · replace c64 := Bool.eq_false_iff.mpr c64
                  subst c64
                  have H1 : (some false) = some r := by rw [if_neg (show ¬ (false = true) by decide)] at H; exact H
                  clear H
                  have H := H1
                  clear H1
                  obtain rfl := Option.some.inj H
                  have hcz78_0 : wc.cell? ⟨gb136, 0, none⟩ = some (.int .i64 a0_0) := (blk_cell BK136.out 0).trans rfl
                  have hcz78_1 : wc.cell? ⟨gb136, 1, none⟩ = some (.int .i64 a0_1) := (blk_cell BK136.out 1).trans rfl
                  have hcz78_2 : wc.cell? ⟨gb136, 2, none⟩ = some (.int .i64 a0_2) := (blk_cell BK136.out 2).trans rfl
                  have hcz78_3 : wc.cell? ⟨gb136, 3, none⟩ = some (.int .i64 a0_3) := (blk_cell BK136.out 3).trans rfl
                  have hcz78_4 : wc.cell? ⟨gb136, 4, none⟩ = some (.int .i64 a0_4) := (blk_cell BK136.out 4).trans rfl
                  have hcz78_5 : wc.cell? ⟨gb136, 5, none⟩ = some (.slice A0_5 l0_5.length c0_5) := (blk_cell BK136.out 5).trans rfl
                  have hcz78_6 : wc.cell? ⟨gb136, 6, none⟩ = some (.slice A0_6 l0_6.length c0_6) := (blk_cell BK136.out 6).trans rfl
                  have hcz78_7 : wc.cell? ⟨gb136, 7, none⟩ = some (.slice A0_7 l0_7.length c0_7) := (blk_cell BK136.out 7).trans rfl
                  have hfz78_0 := blk_frozen BK136.out 0
                  have hfz78_1 := blk_frozen BK136.out 1
                  have hfz78_2 := blk_frozen BK136.out 2
                  have hfz78_3 := blk_frozen BK136.out 3
                  have hfz78_4 := blk_frozen BK136.out 4
                  have hfz78_5 := blk_frozen BK136.out 5
                  have hfz78_6 := blk_frozen BK136.out 6
                  have hfz78_7 := blk_frozen BK136.out 7
                  go_wp2_with (first | ((with_reducible refine gate_callee (f := 74) rfl ?_); refine goesL_ (some 57) rfl rfl Try.func74 (by kernel_rfl) rfl #[.agg #[.int .i64 a0_0, .int .i64 a0_1, .int .i64 a0_2, .int .i64 a0_3, .int .i64 a0_4, .slice A0_5 l0_5.length c0_5, .slice A0_6 l0_6.length c0_6, .slice A0_7 l0_7.length c0_7], .bool false] rfl ab2_ ?_; (with_reducible refine (spec_l11Var.calls a0_0 a0_1 a0_2 a0_3 a0_4 _ _ l0_5 _ _ l0_6 _ _ l0_7 false false _ ?side1 ?side2 ?side3 ?side4 ?side5 ?side6 A63.out).mono ?_); (case side1 => repeat (first | exact (Kd.C_below HR0_5.out HB.out) | (with_reducible refine Kd.C_alloc ?_ _) | (with_reducible refine Kd.C_drewN ?_ _) | (with_reducible refine Kd.C_drew ?_))); (case side2 => exact HC0_5.out); (case side3 => repeat (first | exact (Kd.C_below HR0_6.out HB.out) | (with_reducible refine Kd.C_alloc ?_ _) | (with_reducible refine Kd.C_drewN ?_ _) | (with_reducible refine Kd.C_drew ?_))); (case side4 => exact HC0_6.out); (case side5 => repeat (first | exact (Kd.C_below HR0_7.out HB.out) | (with_reducible refine Kd.C_alloc ?_ _) | (with_reducible refine Kd.C_drewN ?_ _) | (with_reducible refine Kd.C_drew ?_))); (case side6 => exact HC0_7.out); rintro e w79 ⟨rfl, hb⟩; refine ⟨_, rfl, ?_⟩; have n0_ := Aside0.mk (blk_below (g := gb136) (o := .cells #[.int .i64 a0_0, .int .i64 a0_1, .int .i64 a0_2, .int .i64 a0_3, .int .i64 a0_4, .slice A0_5 l0_5.length c0_5, .slice A0_6 l0_6.length c0_6, .slice A0_7 l0_7.length c0_7] 37 (0, 0)) (aG_ BK136.out) hb); have n1_ := Aside0.mk (below_step ab3_ hb); clear BK136; clear HB; have BK136 := n0_; have HB := n1_; clear n0_ n1_; (try clear hb); (try clear hb2); (try clear hk); (try clear hi)))
                  go_ret
                  exact ⟨by first | rfl | (simp [errW_none, errW_some] <;> rfl) | (simp [*, errW_none, errW_some] <;> rfl), ab3_⟩
              · rw [if_neg c62] at H
                have c62b0 : (a0_0 == 6) = false := beq_eq_false_iff_ne.mpr c62
                have c62b1 : (a0_0 != 6) = true := bne_iff_ne.mpr c62
                by_cases c80 : a0_0 = 7
                · rw [if_pos c80] at H
                  have c80b0 : (a0_0 == 7) = true := beq_iff_eq.mpr c80
                  have c80b1 : (a0_0 != 7) = false := bne_eq_false_iff_eq.mpr c80
                  clear c80
                  replace H := Option.bind_eq_some_iff.mp H
                  obtain ⟨t149, A810, H⟩ := H
                  replace H : (if t149 = true then ((spec_l11Box.f a0_0 a0_1 a0_2 a0_3 a0_4 l0_5 l0_6 l0_7 false).bind fun t150 => (if t150 = true then ((spec_ExprValid.f kj1 a0_3 a0_4 l0_5).bind fun t151 => (some t151)) else (some false))) else (some false)) = some r := H
                  have A81 := Aside0.mk A810
                  clear A810
                  by_cases c82 : t149 = true
                  · subst c82
                    have H1 : ((spec_l11Box.f a0_0 a0_1 a0_2 a0_3 a0_4 l0_5 l0_6 l0_7 false).bind fun t150 => (if t150 = true then ((spec_ExprValid.f kj1 a0_3 a0_4 l0_5).bind fun t151 => (some t151)) else (some false))) = some r := by rw [if_pos rfl] at H; exact H
                    clear H
                    have H := H1
                    clear H1
                    replace H := Option.bind_eq_some_iff.mp H
                    obtain ⟨t150, A830, H⟩ := H
                    replace H : (if t150 = true then ((spec_ExprValid.f kj1 a0_3 a0_4 l0_5).bind fun t151 => (some t151)) else (some false)) = some r := H
                    have A83 := Aside0.mk A830
                    clear A830
                    by_cases c84 : t150 = true
                    · subst c84
                      have H1 : ((spec_ExprValid.f kj1 a0_3 a0_4 l0_5).bind fun t151 => (some t151)) = some r := by rw [if_pos rfl] at H; exact H
                      clear H
                      have H := H1
                      clear H1
                      replace H := Option.bind_eq_some_iff.mp H
                      obtain ⟨t151, A850, H⟩ := H
                      replace H : (some t151) = some r := H
                      have A85 := Aside0.mk A850
                      clear A850
                      obtain rfl := Option.some.inj H
                      have hcz86_0 : wc.cell? ⟨gb136, 0, none⟩ = some (.int .i64 a0_0) := (blk_cell BK136.out 0).trans rfl
                      have hcz86_1 : wc.cell? ⟨gb136, 1, none⟩ = some (.int .i64 a0_1) := (blk_cell BK136.out 1).trans rfl
                      have hcz86_2 : wc.cell? ⟨gb136, 2, none⟩ = some (.int .i64 a0_2) := (blk_cell BK136.out 2).trans rfl
                      have hcz86_3 : wc.cell? ⟨gb136, 3, none⟩ = some (.int .i64 a0_3) := (blk_cell BK136.out 3).trans rfl
                      have hcz86_4 : wc.cell? ⟨gb136, 4, none⟩ = some (.int .i64 a0_4) := (blk_cell BK136.out 4).trans rfl
                      have hcz86_5 : wc.cell? ⟨gb136, 5, none⟩ = some (.slice A0_5 l0_5.length c0_5) := (blk_cell BK136.out 5).trans rfl
                      have hcz86_6 : wc.cell? ⟨gb136, 6, none⟩ = some (.slice A0_6 l0_6.length c0_6) := (blk_cell BK136.out 6).trans rfl
                      have hcz86_7 : wc.cell? ⟨gb136, 7, none⟩ = some (.slice A0_7 l0_7.length c0_7) := (blk_cell BK136.out 7).trans rfl
                      have hfz86_0 := blk_frozen BK136.out 0
                      have hfz86_1 := blk_frozen BK136.out 1
                      have hfz86_2 := blk_frozen BK136.out 2
                      have hfz86_3 := blk_frozen BK136.out 3
                      have hfz86_4 := blk_frozen BK136.out 4
                      have hfz86_5 := blk_frozen BK136.out 5
                      have hfz86_6 := blk_frozen BK136.out 6
                      have hfz86_7 := blk_frozen BK136.out 7
                      go_wp2_with (first | ((with_reducible refine gate_callee (f := 74) rfl ?_); refine goesL_ (some 70) rfl rfl Try.func74 (by kernel_rfl) rfl #[.agg #[.int .i64 a0_0, .int .i64 a0_1, .int .i64 a0_2, .int .i64 a0_3, .int .i64 a0_4, .slice A0_5 l0_5.length c0_5, .slice A0_6 l0_6.length c0_6, .slice A0_7 l0_7.length c0_7], .bool false] rfl ab2_ ?_; (with_reducible refine (spec_l11Var.calls a0_0 a0_1 a0_2 a0_3 a0_4 _ _ l0_5 _ _ l0_6 _ _ l0_7 false true _ ?side1 ?side2 ?side3 ?side4 ?side5 ?side6 A81.out).mono ?_); (case side1 => repeat (first | exact (Kd.C_below HR0_5.out HB.out) | (with_reducible refine Kd.C_alloc ?_ _) | (with_reducible refine Kd.C_drewN ?_ _) | (with_reducible refine Kd.C_drew ?_))); (case side2 => exact HC0_5.out); (case side3 => repeat (first | exact (Kd.C_below HR0_6.out HB.out) | (with_reducible refine Kd.C_alloc ?_ _) | (with_reducible refine Kd.C_drewN ?_ _) | (with_reducible refine Kd.C_drew ?_))); (case side4 => exact HC0_6.out); (case side5 => repeat (first | exact (Kd.C_below HR0_7.out HB.out) | (with_reducible refine Kd.C_alloc ?_ _) | (with_reducible refine Kd.C_drewN ?_ _) | (with_reducible refine Kd.C_drew ?_))); (case side6 => exact HC0_7.out); rintro e w87 ⟨rfl, hb⟩; refine ⟨_, rfl, ?_⟩; have n0_ := Aside0.mk (blk_below (g := gb136) (o := .cells #[.int .i64 a0_0, .int .i64 a0_1, .int .i64 a0_2, .int .i64 a0_3, .int .i64 a0_4, .slice A0_5 l0_5.length c0_5, .slice A0_6 l0_6.length c0_6, .slice A0_7 l0_7.length c0_7] 37 (0, 0)) (aG_ BK136.out) hb); have n1_ := Aside0.mk (below_step ab3_ hb); clear BK136; clear HB; have BK136 := n0_; have HB := n1_; clear n0_ n1_; (try clear hb); (try clear hb2); (try clear hk); (try clear hi); have hcz88_0 : w87.cell? ⟨gb136, 0, none⟩ = some (.int .i64 a0_0) := (blk_cell BK136.out 0).trans rfl; have hcz88_1 : w87.cell? ⟨gb136, 1, none⟩ = some (.int .i64 a0_1) := (blk_cell BK136.out 1).trans rfl; have hcz88_2 : w87.cell? ⟨gb136, 2, none⟩ = some (.int .i64 a0_2) := (blk_cell BK136.out 2).trans rfl; have hcz88_3 : w87.cell? ⟨gb136, 3, none⟩ = some (.int .i64 a0_3) := (blk_cell BK136.out 3).trans rfl; have hcz88_4 : w87.cell? ⟨gb136, 4, none⟩ = some (.int .i64 a0_4) := (blk_cell BK136.out 4).trans rfl; have hcz88_5 : w87.cell? ⟨gb136, 5, none⟩ = some (.slice A0_5 l0_5.length c0_5) := (blk_cell BK136.out 5).trans rfl; have hcz88_6 : w87.cell? ⟨gb136, 6, none⟩ = some (.slice A0_6 l0_6.length c0_6) := (blk_cell BK136.out 6).trans rfl; have hcz88_7 : w87.cell? ⟨gb136, 7, none⟩ = some (.slice A0_7 l0_7.length c0_7) := (blk_cell BK136.out 7).trans rfl; have hfz88_0 := blk_frozen BK136.out 0; have hfz88_1 := blk_frozen BK136.out 1; have hfz88_2 := blk_frozen BK136.out 2; have hfz88_3 := blk_frozen BK136.out 3; have hfz88_4 := blk_frozen BK136.out 4; have hfz88_5 := blk_frozen BK136.out 5; have hfz88_6 := blk_frozen BK136.out 6; have hfz88_7 := blk_frozen BK136.out 7) | (go_at_call 75; (with_reducible refine (spec_l11Box.calls a0_0 a0_1 a0_2 a0_3 a0_4 _ _ l0_5 _ _ l0_6 _ _ l0_7 false true _ ?side1 ?side2 ?side3 ?side4 ?side5 ?side6 A83.out).mono ?_); (case side1 => repeat (first | exact (Kd.C_below HR0_5.out HB.out) | (with_reducible refine Kd.C_alloc ?_ _) | (with_reducible refine Kd.C_drewN ?_ _) | (with_reducible refine Kd.C_drew ?_))); (case side2 => exact HC0_5.out); (case side3 => repeat (first | exact (Kd.C_below HR0_6.out HB.out) | (with_reducible refine Kd.C_alloc ?_ _) | (with_reducible refine Kd.C_drewN ?_ _) | (with_reducible refine Kd.C_drew ?_))); (case side4 => exact HC0_6.out); (case side5 => repeat (first | exact (Kd.C_below HR0_7.out HB.out) | (with_reducible refine Kd.C_alloc ?_ _) | (with_reducible refine Kd.C_drewN ?_ _) | (with_reducible refine Kd.C_drew ?_))); (case side6 => exact HC0_7.out); rintro e w89 ⟨rfl, hb⟩; have n0_ := Aside0.mk (blk_below (g := gb136) (o := .cells #[.int .i64 a0_0, .int .i64 a0_1, .int .i64 a0_2, .int .i64 a0_3, .int .i64 a0_4, .slice A0_5 l0_5.length c0_5, .slice A0_6 l0_6.length c0_6, .slice A0_7 l0_7.length c0_7] 37 (0, 0)) (aG_ BK136.out) hb); have n1_ := Aside0.mk (below_step ab3_ hb); clear BK136; clear HB; have BK136 := n0_; have HB := n1_; clear n0_ n1_; (try clear hb); (try clear hb2); (try clear hk); (try clear hi); have hcz90_0 : w89.cell? ⟨gb136, 0, none⟩ = some (.int .i64 a0_0) := (blk_cell BK136.out 0).trans rfl; have hcz90_1 : w89.cell? ⟨gb136, 1, none⟩ = some (.int .i64 a0_1) := (blk_cell BK136.out 1).trans rfl; have hcz90_2 : w89.cell? ⟨gb136, 2, none⟩ = some (.int .i64 a0_2) := (blk_cell BK136.out 2).trans rfl; have hcz90_3 : w89.cell? ⟨gb136, 3, none⟩ = some (.int .i64 a0_3) := (blk_cell BK136.out 3).trans rfl; have hcz90_4 : w89.cell? ⟨gb136, 4, none⟩ = some (.int .i64 a0_4) := (blk_cell BK136.out 4).trans rfl; have hcz90_5 : w89.cell? ⟨gb136, 5, none⟩ = some (.slice A0_5 l0_5.length c0_5) := (blk_cell BK136.out 5).trans rfl; have hcz90_6 : w89.cell? ⟨gb136, 6, none⟩ = some (.slice A0_6 l0_6.length c0_6) := (blk_cell BK136.out 6).trans rfl; have hcz90_7 : w89.cell? ⟨gb136, 7, none⟩ = some (.slice A0_7 l0_7.length c0_7) := (blk_cell BK136.out 7).trans rfl; have hfz90_0 := blk_frozen BK136.out 0; have hfz90_1 := blk_frozen BK136.out 1; have hfz90_2 := blk_frozen BK136.out 2; have hfz90_3 := blk_frozen BK136.out 3; have hfz90_4 := blk_frozen BK136.out 4; have hfz90_5 := blk_frozen BK136.out 5; have hfz90_6 := blk_frozen BK136.out 6; have hfz90_7 := blk_frozen BK136.out 7) | (go_at_call 76; (with_reducible refine (spec_ExprValid.calls kj1 a0_3 a0_4 _ _ l0_5 t151 _ ?side1 ?side2 A85.out).mono ?_); (case side1 => repeat (first | exact (Kd.C_below HR0_5.out HB.out) | (with_reducible refine Kd.C_alloc ?_ _) | (with_reducible refine Kd.C_drewN ?_ _) | (with_reducible refine Kd.C_drew ?_))); (case side2 => exact HC0_5.out); rintro e w91 ⟨rfl, hb⟩; have n0_ := Aside0.mk (blk_below (g := gb136) (o := .cells #[.int .i64 a0_0, .int .i64 a0_1, .int .i64 a0_2, .int .i64 a0_3, .int .i64 a0_4, .slice A0_5 l0_5.length c0_5, .slice A0_6 l0_6.length c0_6, .slice A0_7 l0_7.length c0_7] 37 (0, 0)) (aG_ BK136.out) hb); have n1_ := Aside0.mk (below_step ab3_ hb); clear BK136; clear HB; have BK136 := n0_; have HB := n1_; clear n0_ n1_; (try clear hb); (try clear hb2); (try clear hk); (try clear hi)))
                      go_ret
                      exact ⟨by first | rfl | (simp [errW_none, errW_some] <;> rfl) | (simp [*, errW_none, errW_some] <;> rfl), ab3_⟩
                    · replace c84 := Bool.eq_false_iff.mpr c84
                      subst c84
                      have H1 : (some false) = some r := by rw [if_neg (show ¬ (false = true) by decide)] at H; exact H
                      clear H
                      have H := H1
                      clear H1
                      obtain rfl := Option.some.inj H
                      have hcz92_0 : wc.cell? ⟨gb136, 0, none⟩ = some (.int .i64 a0_0) := (blk_cell BK136.out 0).trans rfl
                      have hcz92_1 : wc.cell? ⟨gb136, 1, none⟩ = some (.int .i64 a0_1) := (blk_cell BK136.out 1).trans rfl
                      have hcz92_2 : wc.cell? ⟨gb136, 2, none⟩ = some (.int .i64 a0_2) := (blk_cell BK136.out 2).trans rfl
                      have hcz92_3 : wc.cell? ⟨gb136, 3, none⟩ = some (.int .i64 a0_3) := (blk_cell BK136.out 3).trans rfl
                      have hcz92_4 : wc.cell? ⟨gb136, 4, none⟩ = some (.int .i64 a0_4) := (blk_cell BK136.out 4).trans rfl
                      have hcz92_5 : wc.cell? ⟨gb136, 5, none⟩ = some (.slice A0_5 l0_5.length c0_5) := (blk_cell BK136.out 5).trans rfl
                      have hcz92_6 : wc.cell? ⟨gb136, 6, none⟩ = some (.slice A0_6 l0_6.length c0_6) := (blk_cell BK136.out 6).trans rfl
                      have hcz92_7 : wc.cell? ⟨gb136, 7, none⟩ = some (.slice A0_7 l0_7.length c0_7) := (blk_cell BK136.out 7).trans rfl
                      have hfz92_0 := blk_frozen BK136.out 0
                      have hfz92_1 := blk_frozen BK136.out 1
                      have hfz92_2 := blk_frozen BK136.out 2
                      have hfz92_3 := blk_frozen BK136.out 3
                      have hfz92_4 := blk_frozen BK136.out 4
                      have hfz92_5 := blk_frozen BK136.out 5
                      have hfz92_6 := blk_frozen BK136.out 6
                      have hfz92_7 := blk_frozen BK136.out 7
                      go_wp2_with (first | ((with_reducible refine gate_callee (f := 74) rfl ?_); refine goesL_ (some 70) rfl rfl Try.func74 (by kernel_rfl) rfl #[.agg #[.int .i64 a0_0, .int .i64 a0_1, .int .i64 a0_2, .int .i64 a0_3, .int .i64 a0_4, .slice A0_5 l0_5.length c0_5, .slice A0_6 l0_6.length c0_6, .slice A0_7 l0_7.length c0_7], .bool false] rfl ab2_ ?_; (with_reducible refine (spec_l11Var.calls a0_0 a0_1 a0_2 a0_3 a0_4 _ _ l0_5 _ _ l0_6 _ _ l0_7 false true _ ?side1 ?side2 ?side3 ?side4 ?side5 ?side6 A81.out).mono ?_); (case side1 => repeat (first | exact (Kd.C_below HR0_5.out HB.out) | (with_reducible refine Kd.C_alloc ?_ _) | (with_reducible refine Kd.C_drewN ?_ _) | (with_reducible refine Kd.C_drew ?_))); (case side2 => exact HC0_5.out); (case side3 => repeat (first | exact (Kd.C_below HR0_6.out HB.out) | (with_reducible refine Kd.C_alloc ?_ _) | (with_reducible refine Kd.C_drewN ?_ _) | (with_reducible refine Kd.C_drew ?_))); (case side4 => exact HC0_6.out); (case side5 => repeat (first | exact (Kd.C_below HR0_7.out HB.out) | (with_reducible refine Kd.C_alloc ?_ _) | (with_reducible refine Kd.C_drewN ?_ _) | (with_reducible refine Kd.C_drew ?_))); (case side6 => exact HC0_7.out); rintro e w93 ⟨rfl, hb⟩; refine ⟨_, rfl, ?_⟩; have n0_ := Aside0.mk (blk_below (g := gb136) (o := .cells #[.int .i64 a0_0, .int .i64 a0_1, .int .i64 a0_2, .int .i64 a0_3, .int .i64 a0_4, .slice A0_5 l0_5.length c0_5, .slice A0_6 l0_6.length c0_6, .slice A0_7 l0_7.length c0_7] 37 (0, 0)) (aG_ BK136.out) hb); have n1_ := Aside0.mk (below_step ab3_ hb); clear BK136; clear HB; have BK136 := n0_; have HB := n1_; clear n0_ n1_; (try clear hb); (try clear hb2); (try clear hk); (try clear hi); have hcz94_0 : w93.cell? ⟨gb136, 0, none⟩ = some (.int .i64 a0_0) := (blk_cell BK136.out 0).trans rfl; have hcz94_1 : w93.cell? ⟨gb136, 1, none⟩ = some (.int .i64 a0_1) := (blk_cell BK136.out 1).trans rfl; have hcz94_2 : w93.cell? ⟨gb136, 2, none⟩ = some (.int .i64 a0_2) := (blk_cell BK136.out 2).trans rfl; have hcz94_3 : w93.cell? ⟨gb136, 3, none⟩ = some (.int .i64 a0_3) := (blk_cell BK136.out 3).trans rfl; have hcz94_4 : w93.cell? ⟨gb136, 4, none⟩ = some (.int .i64 a0_4) := (blk_cell BK136.out 4).trans rfl; have hcz94_5 : w93.cell? ⟨gb136, 5, none⟩ = some (.slice A0_5 l0_5.length c0_5) := (blk_cell BK136.out 5).trans rfl; have hcz94_6 : w93.cell? ⟨gb136, 6, none⟩ = some (.slice A0_6 l0_6.length c0_6) := (blk_cell BK136.out 6).trans rfl; have hcz94_7 : w93.cell? ⟨gb136, 7, none⟩ = some (.slice A0_7 l0_7.length c0_7) := (blk_cell BK136.out 7).trans rfl; have hfz94_0 := blk_frozen BK136.out 0; have hfz94_1 := blk_frozen BK136.out 1; have hfz94_2 := blk_frozen BK136.out 2; have hfz94_3 := blk_frozen BK136.out 3; have hfz94_4 := blk_frozen BK136.out 4; have hfz94_5 := blk_frozen BK136.out 5; have hfz94_6 := blk_frozen BK136.out 6; have hfz94_7 := blk_frozen BK136.out 7) | (go_at_call 75; (with_reducible refine (spec_l11Box.calls a0_0 a0_1 a0_2 a0_3 a0_4 _ _ l0_5 _ _ l0_6 _ _ l0_7 false false _ ?side1 ?side2 ?side3 ?side4 ?side5 ?side6 A83.out).mono ?_); (case side1 => repeat (first | exact (Kd.C_below HR0_5.out HB.out) | (with_reducible refine Kd.C_alloc ?_ _) | (with_reducible refine Kd.C_drewN ?_ _) | (with_reducible refine Kd.C_drew ?_))); (case side2 => exact HC0_5.out); (case side3 => repeat (first | exact (Kd.C_below HR0_6.out HB.out) | (with_reducible refine Kd.C_alloc ?_ _) | (with_reducible refine Kd.C_drewN ?_ _) | (with_reducible refine Kd.C_drew ?_))); (case side4 => exact HC0_6.out); (case side5 => repeat (first | exact (Kd.C_below HR0_7.out HB.out) | (with_reducible refine Kd.C_alloc ?_ _) | (with_reducible refine Kd.C_drewN ?_ _) | (with_reducible refine Kd.C_drew ?_))); (case side6 => exact HC0_7.out); rintro e w95 ⟨rfl, hb⟩; have n0_ := Aside0.mk (blk_below (g := gb136) (o := .cells #[.int .i64 a0_0, .int .i64 a0_1, .int .i64 a0_2, .int .i64 a0_3, .int .i64 a0_4, .slice A0_5 l0_5.length c0_5, .slice A0_6 l0_6.length c0_6, .slice A0_7 l0_7.length c0_7] 37 (0, 0)) (aG_ BK136.out) hb); have n1_ := Aside0.mk (below_step ab3_ hb); clear BK136; clear HB; have BK136 := n0_; have HB := n1_; clear n0_ n1_; (try clear hb); (try clear hb2); (try clear hk); (try clear hi)))
                      go_ret
                      exact ⟨by first | rfl | (simp [errW_none, errW_some] <;> rfl) | (simp [*, errW_none, errW_some] <;> rfl), ab3_⟩
                  · replace c82 := Bool.eq_false_iff.mpr c82
                    subst c82
                    have H1 : (some false) = some r := by rw [if_neg (show ¬ (false = true) by decide)] at H; exact H
                    clear H
                    have H := H1
                    clear H1
                    obtain rfl := Option.some.inj H
                    have hcz96_0 : wc.cell? ⟨gb136, 0, none⟩ = some (.int .i64 a0_0) := (blk_cell BK136.out 0).trans rfl
                    have hcz96_1 : wc.cell? ⟨gb136, 1, none⟩ = some (.int .i64 a0_1) := (blk_cell BK136.out 1).trans rfl
                    have hcz96_2 : wc.cell? ⟨gb136, 2, none⟩ = some (.int .i64 a0_2) := (blk_cell BK136.out 2).trans rfl
                    have hcz96_3 : wc.cell? ⟨gb136, 3, none⟩ = some (.int .i64 a0_3) := (blk_cell BK136.out 3).trans rfl
                    have hcz96_4 : wc.cell? ⟨gb136, 4, none⟩ = some (.int .i64 a0_4) := (blk_cell BK136.out 4).trans rfl
                    have hcz96_5 : wc.cell? ⟨gb136, 5, none⟩ = some (.slice A0_5 l0_5.length c0_5) := (blk_cell BK136.out 5).trans rfl
                    have hcz96_6 : wc.cell? ⟨gb136, 6, none⟩ = some (.slice A0_6 l0_6.length c0_6) := (blk_cell BK136.out 6).trans rfl
                    have hcz96_7 : wc.cell? ⟨gb136, 7, none⟩ = some (.slice A0_7 l0_7.length c0_7) := (blk_cell BK136.out 7).trans rfl
                    have hfz96_0 := blk_frozen BK136.out 0
                    have hfz96_1 := blk_frozen BK136.out 1
                    have hfz96_2 := blk_frozen BK136.out 2
                    have hfz96_3 := blk_frozen BK136.out 3
                    have hfz96_4 := blk_frozen BK136.out 4
                    have hfz96_5 := blk_frozen BK136.out 5
                    have hfz96_6 := blk_frozen BK136.out 6
                    have hfz96_7 := blk_frozen BK136.out 7
                    go_wp2_with (first | ((with_reducible refine gate_callee (f := 74) rfl ?_); refine goesL_ (some 70) rfl rfl Try.func74 (by kernel_rfl) rfl #[.agg #[.int .i64 a0_0, .int .i64 a0_1, .int .i64 a0_2, .int .i64 a0_3, .int .i64 a0_4, .slice A0_5 l0_5.length c0_5, .slice A0_6 l0_6.length c0_6, .slice A0_7 l0_7.length c0_7], .bool false] rfl ab2_ ?_; (with_reducible refine (spec_l11Var.calls a0_0 a0_1 a0_2 a0_3 a0_4 _ _ l0_5 _ _ l0_6 _ _ l0_7 false false _ ?side1 ?side2 ?side3 ?side4 ?side5 ?side6 A81.out).mono ?_); (case side1 => repeat (first | exact (Kd.C_below HR0_5.out HB.out) | (with_reducible refine Kd.C_alloc ?_ _) | (with_reducible refine Kd.C_drewN ?_ _) | (with_reducible refine Kd.C_drew ?_))); (case side2 => exact HC0_5.out); (case side3 => repeat (first | exact (Kd.C_below HR0_6.out HB.out) | (with_reducible refine Kd.C_alloc ?_ _) | (with_reducible refine Kd.C_drewN ?_ _) | (with_reducible refine Kd.C_drew ?_))); (case side4 => exact HC0_6.out); (case side5 => repeat (first | exact (Kd.C_below HR0_7.out HB.out) | (with_reducible refine Kd.C_alloc ?_ _) | (with_reducible refine Kd.C_drewN ?_ _) | (with_reducible refine Kd.C_drew ?_))); (case side6 => exact HC0_7.out); rintro e w97 ⟨rfl, hb⟩; refine ⟨_, rfl, ?_⟩; have n0_ := Aside0.mk (blk_below (g := gb136) (o := .cells #[.int .i64 a0_0, .int .i64 a0_1, .int .i64 a0_2, .int .i64 a0_3, .int .i64 a0_4, .slice A0_5 l0_5.length c0_5, .slice A0_6 l0_6.length c0_6, .slice A0_7 l0_7.length c0_7] 37 (0, 0)) (aG_ BK136.out) hb); have n1_ := Aside0.mk (below_step ab3_ hb); clear BK136; clear HB; have BK136 := n0_; have HB := n1_; clear n0_ n1_; (try clear hb); (try clear hb2); (try clear hk); (try clear hi)))
                    go_ret
                    exact ⟨by first | rfl | (simp [errW_none, errW_some] <;> rfl) | (simp [*, errW_none, errW_some] <;> rfl), ab3_⟩
                · rw [if_neg c80] at H
                  have c80b0 : (a0_0 == 7) = false := beq_eq_false_iff_ne.mpr c80
                  have c80b1 : (a0_0 != 7) = true := bne_iff_ne.mpr c80
                  obtain rfl := Option.some.inj H
                  have hcz98_0 : wc.cell? ⟨gb136, 0, none⟩ = some (.int .i64 a0_0) := (blk_cell BK136.out 0).trans rfl
                  have hcz98_1 : wc.cell? ⟨gb136, 1, none⟩ = some (.int .i64 a0_1) := (blk_cell BK136.out 1).trans rfl
                  have hcz98_2 : wc.cell? ⟨gb136, 2, none⟩ = some (.int .i64 a0_2) := (blk_cell BK136.out 2).trans rfl
                  have hcz98_3 : wc.cell? ⟨gb136, 3, none⟩ = some (.int .i64 a0_3) := (blk_cell BK136.out 3).trans rfl
                  have hcz98_4 : wc.cell? ⟨gb136, 4, none⟩ = some (.int .i64 a0_4) := (blk_cell BK136.out 4).trans rfl
                  have hcz98_5 : wc.cell? ⟨gb136, 5, none⟩ = some (.slice A0_5 l0_5.length c0_5) := (blk_cell BK136.out 5).trans rfl
                  have hcz98_6 : wc.cell? ⟨gb136, 6, none⟩ = some (.slice A0_6 l0_6.length c0_6) := (blk_cell BK136.out 6).trans rfl
                  have hcz98_7 : wc.cell? ⟨gb136, 7, none⟩ = some (.slice A0_7 l0_7.length c0_7) := (blk_cell BK136.out 7).trans rfl
                  have hfz98_0 := blk_frozen BK136.out 0
                  have hfz98_1 := blk_frozen BK136.out 1
                  have hfz98_2 := blk_frozen BK136.out 2
                  have hfz98_3 := blk_frozen BK136.out 3
                  have hfz98_4 := blk_frozen BK136.out 4
                  have hfz98_5 := blk_frozen BK136.out 5
                  have hfz98_6 := blk_frozen BK136.out 6
                  have hfz98_7 := blk_frozen BK136.out 7
                  go_wp2
                  go_ret
                  exact ⟨by first | rfl | (simp [errW_none, errW_some] <;> rfl) | (simp [*, errW_none, errW_some] <;> rfl), ab3_⟩

end Go.Proofs.Ytpcbfcaacilghaa.PA

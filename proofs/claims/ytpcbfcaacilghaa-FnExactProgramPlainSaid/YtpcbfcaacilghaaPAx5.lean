-- made by a program of this session (wip/myprint.py over the kit's print)
import Derived.Test.YtpcbfcaacilghaaV
import Derived.Test.YtpcbfcaacilghaaPAx0
import Derived.Test.YtpcbfcaacilghaaPAx1
import Derived.Test.YtpcbfcaacilghaaPAx4
namespace Go.Proofs.Ytpcbfcaacilghaa.PA
open Go.RowKit Go.Proofs.YtpcbfcaacilghaaW.PrintWords Go.Proofs.YtpcbfcaacilghaaW.PrintLast Go.Proofs.YtpcbfcaacilghaaW.PrintMore
attribute [local go_sem] max2_int min2_int max_two min_two max_three min_three max_four min_four   -- for this text's walks alone
set_option linter.unusedVariables false
set_option linter.unusedSimpArgs false

/-! ### impl_stmtValid: function 64 -/
theorem stv_rest.mono : ∀ nv nb ne nd no va bx op n la lb le boxes k, LeO (stv_rest k nv nb ne nd no va bx op n la lb le boxes) (stv_rest (k + 1) nv nb ne nd no va bx op n la lb le boxes) := by
  intro nv nb ne nd no va bx op n la lb le boxes k
  unfold stv_rest
  repeat' first
  | (with_reducible exact LeO.refl _)
  | (with_reducible exact impl_ExprValid.mono _ _ _ _)
  | (with_reducible refine LeO.ite ?_ ?_)
  | (with_reducible refine LeO.bind ?_ (fun _ => ?_))
theorem impl_stmtValid.mono : ∀ kd va bx op n la lb le boxes k, LeO (impl_stmtValid.f k kd va bx op n la lb le boxes) (impl_stmtValid.f (k + 1) kd va bx op n la lb le boxes) := by
  intro kd va bx op n la lb le boxes k
  unfold impl_stmtValid.f
  repeat' first
  | (with_reducible exact LeO.refl _)
  | (with_reducible exact stv_rest.mono _ _ _ _ _ _ _ _ _ _ _ _ _ _)
  | (with_reducible refine LeO.ite ?_ ?_)
attribute [local irreducible] inr
set_option maxHeartbeats 8000000 in
set_option maxRecDepth 100000 in
theorem impl_stmtValid.callsP (k : Nat) (g : Addr) (kd va bx op n : Int) (Aa : Option Addr) (ca : Nat) (la : List S34) (Ab : Option Addr) (lb cb : Nat) (Ae : Option Addr) (le ce : Nat) (boxes : Int) (r : Bool) (w : World)
    (hg0 : w.cell? g = some (.int .i64 kd)) (hg1 : w.cell? ⟨g.block, g.off + 1, none⟩ = some (.int .i64 va)) (hg2 : w.cell? ⟨g.block, g.off + 2, none⟩ = some (.int .i64 bx))
    (hg3 : w.cell? ⟨g.block, g.off + 3, none⟩ = some (.int .i64 op)) (hg4 : w.cell? ⟨g.block, g.off + 4, none⟩ = some (.int .i64 n)) (hg5 : w.cell? ⟨g.block, g.off + 5, none⟩ = some (.slice Aa la.length ca))
    (hg6 : w.cell? ⟨g.block, g.off + 6, none⟩ = some (.slice Ab lb cb)) (hg7 : w.cell? ⟨g.block, g.off + 7, none⟩ = some (.slice Ae le ce))
    (hr : Kd.C k34 w Aa la.length la) (hc : la.length ≤ ca) (h : impl_stmtValid.f k kd va bx op n la lb le boxes = some r) :
    Calls Try.prog 64 #[.pointer (some g), .int .i64 boxes] w fun e w' => e = .returned (.bool r) ∧ Below w.heap.size w w' := by
  have HR := Aside0.mk hr
  have HC := Aside0.mk hc
  have HH := Aside0.mk h
  clear hr hc h
  go_enter Try.func64, Try.ntmps64
  go_upto_region 2 with (first | ((with_reducible refine gate_dst (N := 5) rfl ?_); refine box_event (N := 5) ?hg ?hd (cs := #[.bool false, .bool false, .bool false, .bool false, .bool false]) (t := 93) ?hr ?_; (case hd => rfl); (case hg => rfl); (case hr => first | (go_simp; done) | (go_simp; rfl)); intro gb hg w1 hbox hb) | fail)
  have k0 := pw_cell_below hb hg0
  have z0 := blk_cell hbox 0
  have z1 := blk_cell hbox 1
  have z2 := blk_cell hbox 2
  have z3 := blk_cell hbox 3
  have z4 := blk_cell hbox 4
  have f0 := blk_frozen hbox 0
  have f1 := blk_frozen hbox 1
  have f2 := blk_frozen hbox 2
  have f3 := blk_frozen hbox 3
  have f4 := blk_frozen hbox 4
  have HBX := Aside0.mk hbox
  have HB := Aside0.mk hb
  have HG := Aside0.mk (Nat.le_of_eq hg.symm)
  clear hbox hb hg
  go_upto_block 0 with fail
  go_cut [4, 5] from 7 (fun v4 v5 wc => ∃ nv nb ne nd no, v5 = .pointer (some ⟨gb, 0, none⟩) ∧ Aside0 (stv_rest k nv nb ne nd no va bx op n la lb le boxes = some r) ∧ Aside0 (wc.heap[gb]? = some (.cells #[.bool nv, .bool nb, .bool ne, .bool nd, .bool no] 93 (0, 0))) ∧ Aside0 (Below w.heap.size w wc))
  case first =>
    have H := HH.out
    clear HH
    unfold impl_stmtValid.f at H
    by_cases c1 : kd = 1
    · rw [if_pos c1] at H
      subst c1
      have H' := Aside0.mk H
      clear H
      go_wp2
      go_meet
      case rel => exact ⟨true, false, true, false, false, rfl, H', ⟨(blk_put (blk_put HBX.out 0 (.bool true) (by rfl)) 2 (.bool true) (by rfl))⟩, ⟨(below_set (below_set HB.out HG.out) HG.out)⟩⟩
    · rw [if_neg c1] at H
      have d1 : (kd == 1) = false := beq_eq_false_iff_ne.mpr c1
      by_cases c2 : kd = 2
      · rw [if_pos c2] at H
        subst c2
        have H' := Aside0.mk H
        clear H
        go_wp2
        go_meet
        case rel => exact ⟨false, false, true, true, true, rfl, H', ⟨(blk_put (blk_put (blk_put HBX.out 2 (.bool true) (by rfl)) 3 (.bool true) (by rfl)) 4 (.bool true) (by rfl))⟩, ⟨(below_set (below_set (below_set HB.out HG.out) HG.out) HG.out)⟩⟩
      · rw [if_neg c2] at H
        have d2 : (kd == 2) = false := beq_eq_false_iff_ne.mpr c2
        by_cases c3 : kd = 3
        · rw [if_pos c3] at H
          subst c3
          have H' := Aside0.mk H
          clear H
          go_wp2
          go_meet
          case rel => exact ⟨false, false, true, true, false, rfl, H', ⟨(blk_put (blk_put HBX.out 2 (.bool true) (by rfl)) 3 (.bool true) (by rfl))⟩, ⟨(below_set (below_set HB.out HG.out) HG.out)⟩⟩
        · rw [if_neg c3] at H
          have d3 : (kd == 3) = false := beq_eq_false_iff_ne.mpr c3
          by_cases c4 : kd = 4
          · rw [if_pos c4] at H
            subst c4
            have H' := Aside0.mk H
            clear H
            go_wp2
            go_meet
            case rel => exact ⟨false, true, true, false, false, rfl, H', ⟨(blk_put (blk_put HBX.out 1 (.bool true) (by rfl)) 2 (.bool true) (by rfl))⟩, ⟨(below_set (below_set HB.out HG.out) HG.out)⟩⟩
          · rw [if_neg c4] at H
            have d4 : (kd == 4) = false := beq_eq_false_iff_ne.mpr c4
            by_cases c5 : kd = 5
            · rw [if_pos c5] at H
              subst c5
              have H' := Aside0.mk H
              clear H
              go_wp2
              go_meet
              case rel => exact ⟨true, true, false, false, false, rfl, H', ⟨(blk_put (blk_put HBX.out 1 (.bool true) (by rfl)) 0 (.bool true) (by rfl))⟩, ⟨(below_set (below_set HB.out HG.out) HG.out)⟩⟩
            · rw [if_neg c5] at H
              have d5 : (kd == 5) = false := beq_eq_false_iff_ne.mpr c5
              by_cases c7 : kd = 7
              · rw [if_pos c7] at H
                subst c7
                have H' := Aside0.mk H
                clear H
                go_wp2
                go_meet
                case rel => exact ⟨false, false, true, false, false, rfl, H', ⟨(blk_put HBX.out 2 (.bool true) (by rfl))⟩, ⟨(below_set HB.out HG.out)⟩⟩
              · rw [if_neg c7] at H
                have d7 : (kd == 7) = false := beq_eq_false_iff_ne.mpr c7
                by_cases c6 : kd = 6
                · rw [if_pos c6] at H
                  subst c6
                  have H' := Aside0.mk H
                  clear H
                  go_wp2
                  go_meet
                  case rel => exact ⟨false, false, false, false, false, rfl, H', ⟨HBX.out⟩, ⟨HB.out⟩⟩
                · rw [if_neg c6] at H
                  have d6 : (kd == 6) = false := beq_eq_false_iff_ne.mpr c6
                  obtain rfl := Option.some.inj H
                  go_wp2
                  go_ret
                  exact ⟨rfl, HB.out⟩
  case rest =>
    obtain ⟨nv, nb, ne, nd, no, rfl, HA, HX, HW⟩ := hcut
    have k1 := pw_cell_below HW.out hg1
    have k2 := pw_cell_below HW.out hg2
    have k3 := pw_cell_below HW.out hg3
    have k4 := pw_cell_below HW.out hg4
    have k5 := pw_cell_below HW.out hg5
    have k6 := pw_cell_below HW.out hg6
    have k7 := pw_cell_below HW.out hg7
    have y0 : wc.cell? ⟨gb, 0, none⟩ = some (.bool nv) := blk_cell HX.out 0
    have y1 : wc.cell? ⟨gb, 1, none⟩ = some (.bool nb) := blk_cell HX.out 1
    have y2 : wc.cell? ⟨gb, 2, none⟩ = some (.bool ne) := blk_cell HX.out 2
    have y3 : wc.cell? ⟨gb, 3, none⟩ = some (.bool nd) := blk_cell HX.out 3
    have y4 : wc.cell? ⟨gb, 4, none⟩ = some (.bool no) := blk_cell HX.out 4
    clear k0 z0 z1 z2 z3 z4 f0 f1 f2 f3 f4 HBX HB hg0 hg1 hg2 hg3 hg4 hg5 hg6 hg7 HH
    go_upto_region 18 with fail
    (try simp only [Act.put, List.setIfInBounds_toArray, List.set_cons_zero, List.set_cons_succ])
    go_cut [69] from 37 (fun v69 wc_ => ∃ (x : Bool), v69 = .bool x ∧ Aside0 (∃ m, wc_ = wc.drewN m) ∧ Aside0 (if x = true then r = false else (if ne = true then ((impl_ExprValid.f k op n la).bind fun t => if t = true then some ((nd || lb == 0) && (no || le == 0)) else some false) else (if op = 0 then (if n = 0 then (if 0 < (la.length : Int) then some false else some ((nd || lb == 0) && (no || le == 0))) else some false) else some false)) = some r))
    case first =>
      have H := HA.out
      clear HA
      unfold stv_rest at H
      by_cases i1 : inr va 4 nv = true
      · rw [if_pos i1] at H
        by_cases i2 : inr bx boxes nb = true
        · rw [if_pos i2] at H
          have I1 := Aside0.mk i1
          have I2 := Aside0.mk i2
          clear i1 i2
          by_cases i3 : nb = true ∧ boxes ≤ bx
          · rw [if_pos i3] at H
            obtain ⟨i4, i5⟩ := i3
            subst i4
            have i6 := eq_true i5
            have H' := Aside0.mk (Option.some.inj H)
            clear H i5
            go_big_quiet (first | (with_reducible refine Calls.quiet_of ((inr_calls _ I1.out).mono (fun e w' hq => ⟨hq.1, hq.2.out⟩))) | (with_reducible refine Calls.quiet_of ((inr_calls _ I2.out).mono (fun e w' hq => ⟨hq.1, hq.2.out⟩))))
            go_wp2
            go_meet
            case rel => exact ⟨true, rfl, ⟨_, rfl⟩, ⟨by rw [if_pos rfl]; exact H'.out.symm⟩⟩
          · rw [if_neg i3] at H
            have H' := Aside0.mk H
            clear H
            cases nb with
            | false =>
              clear i3
              go_big_quiet (first | (with_reducible refine Calls.quiet_of ((inr_calls _ I1.out).mono (fun e w' hq => ⟨hq.1, hq.2.out⟩))) | (with_reducible refine Calls.quiet_of ((inr_calls _ I2.out).mono (fun e w' hq => ⟨hq.1, hq.2.out⟩))))
              go_wp2
              go_meet
              case rel => exact ⟨false, rfl, ⟨_, rfl⟩, ⟨by rw [if_neg (by decide)]; exact H'.out⟩⟩
            | true =>
              have i5 : ¬ boxes ≤ bx := fun h => i3 ⟨rfl, h⟩
              have i6 := eq_false i5
              clear i3 i5
              go_big_quiet (first | (with_reducible refine Calls.quiet_of ((inr_calls _ I1.out).mono (fun e w' hq => ⟨hq.1, hq.2.out⟩))) | (with_reducible refine Calls.quiet_of ((inr_calls _ I2.out).mono (fun e w' hq => ⟨hq.1, hq.2.out⟩))))
              go_wp2
              go_meet
              case rel => exact ⟨false, rfl, ⟨_, rfl⟩, ⟨by rw [if_neg (by decide)]; exact H'.out⟩⟩
        · rw [if_neg i2] at H
          have I1 := Aside0.mk i1
          have I2 := Aside0.mk (Bool.eq_false_iff.mpr i2)
          clear i1 i2
          have H' := Aside0.mk (Option.some.inj H)
          clear H
          go_big_quiet (first | (with_reducible refine Calls.quiet_of ((inr_calls _ I1.out).mono (fun e w' hq => ⟨hq.1, hq.2.out⟩))) | (with_reducible refine Calls.quiet_of ((inr_calls _ I2.out).mono (fun e w' hq => ⟨hq.1, hq.2.out⟩))))
          go_wp2
          go_meet
          case rel => exact ⟨true, rfl, ⟨_, rfl⟩, ⟨by rw [if_pos rfl]; exact H'.out.symm⟩⟩
      · rw [if_neg i1] at H
        have I1 := Aside0.mk (Bool.eq_false_iff.mpr i1)
        clear i1
        have H' := Aside0.mk (Option.some.inj H)
        clear H
        go_big_quiet (first | (with_reducible refine Calls.quiet_of ((inr_calls _ I1.out).mono (fun e w' hq => ⟨hq.1, hq.2.out⟩))))
        go_wp2
        go_meet
        case rel => exact ⟨true, rfl, ⟨_, rfl⟩, ⟨by rw [if_pos rfl]; exact H'.out.symm⟩⟩
    case rest =>
      clear HA
      obtain ⟨x, rfl, ⟨m, rfl⟩, HA⟩ := hcut
      cases x with
      | true =>
        have HA' := HA.out
        rw [if_pos rfl] at HA'
        subst HA'
        clear HA
        go_wp2
        go_ret
        exact ⟨rfl, pw_below_drewN HW.out _⟩
      | false =>
        have H := HA.out
        rw [if_neg (by decide)] at H
        clear HA
        go_upto_region 20 with fail
        (try simp only [Act.put, List.setIfInBounds_toArray, List.set_cons_zero, List.set_cons_succ])
        go_cut [109] from 70 (fun v109 wd => ∃ (x : Bool), v109 = .bool x ∧ Aside0 (Below w.heap.size w wd) ∧ Aside0 (Below wc.heap.size wc wd) ∧ Aside0 (if x = true then r = false else ((nd || lb == 0) && (no || le == 0)) = r))
        case first =>
          cases ne with
          | true =>
            rw [if_pos rfl] at H
            replace H := Option.bind_eq_some_iff.mp H
            obtain ⟨t, ht, H⟩ := H
            have HE := Aside0.mk ht
            have HR1 := Aside0.mk (Kd.C_below HR.out HW.out)
            clear ht
            cases t with
            | true =>
              rw [if_pos rfl] at H
              have H' := Aside0.mk (Option.some.inj H)
              clear H
              go_wp2_with (first | ((with_reducible refine (impl_ExprValid.calls k op n Aa ca la _ _ ?side1 ?side2 HE.out).mono ?_); (case side1 => repeat (first | exact HR1.out | (with_reducible refine Kd.C_drewN ?_ _) | (with_reducible refine Kd.C_drew ?_))); (case side2 => exact HC.out); rintro e wq ⟨rfl, hb⟩; have y2q : wq.cell? ⟨gb, 2, none⟩ = some (.bool true) := pw_cell_below (w := wc.drewN m) hb y2; have HBE := Aside0.mk (show Below wc.heap.size wc wq from (pw_below_drewN (Below.refl _ _) m).trans hb); clear hb; (try dsimp only)) | fail)
              go_meet
              case rel => exact ⟨false, rfl, ⟨below_step HW.out HBE.out⟩, ⟨HBE.out⟩, ⟨by rw [if_neg (by decide)]; exact H'.out⟩⟩
            | false =>
              rw [if_neg (by decide)] at H
              have H' := Aside0.mk (Option.some.inj H)
              clear H
              go_wp2_with (first | ((with_reducible refine (impl_ExprValid.calls k op n Aa ca la _ _ ?side1 ?side2 HE.out).mono ?_); (case side1 => repeat (first | exact HR1.out | (with_reducible refine Kd.C_drewN ?_ _) | (with_reducible refine Kd.C_drew ?_))); (case side2 => exact HC.out); rintro e wq ⟨rfl, hb⟩; have y2q : wq.cell? ⟨gb, 2, none⟩ = some (.bool true) := pw_cell_below (w := wc.drewN m) hb y2; have HBE := Aside0.mk (show Below wc.heap.size wc wq from (pw_below_drewN (Below.refl _ _) m).trans hb); clear hb; (try dsimp only)) | fail)
              go_meet
              case rel => exact ⟨true, rfl, ⟨below_step HW.out HBE.out⟩, ⟨HBE.out⟩, ⟨by rw [if_pos rfl]; exact H'.out.symm⟩⟩
          | false =>
            rw [if_neg (by decide)] at H
            by_cases j0 : op = 0
            · rw [if_pos j0] at H
              by_cases j1 : n = 0
              · rw [if_pos j1] at H
                subst j0
                subst j1
                by_cases j2 : 0 < (la.length : Int)
                · rw [if_pos j2] at H
                  have H' := Aside0.mk (Option.some.inj H)
                  clear H
                  have j3 := eq_true j2
                  have j4 : (0 < la.length) = True := eq_true (by omega)
                  clear j2
                  go_wp2
                  go_meet
                  case rel => exact ⟨true, (by first | rfl | (simp; done) | (simp [*]; done)), ⟨pw_below_drewN HW.out _⟩, ⟨pw_below_drewN (Below.refl _ _) _⟩, ⟨by rw [if_pos rfl]; exact H'.out.symm⟩⟩
                · rw [if_neg j2] at H
                  have H' := Aside0.mk (Option.some.inj H)
                  clear H
                  have j3 := eq_false j2
                  have j4 : (0 < la.length) = False := eq_false (by omega)
                  clear j2
                  go_wp2
                  go_meet
                  case rel => exact ⟨false, (by first | rfl | (simp; done) | (simp [*]; done)), ⟨pw_below_drewN HW.out _⟩, ⟨pw_below_drewN (Below.refl _ _) _⟩, ⟨by rw [if_neg (by decide)]; exact H'.out⟩⟩
              · rw [if_neg j1] at H
                have H' := Aside0.mk (Option.some.inj H)
                clear H
                subst j0
                have j2 : (n != 0) = true := bne_iff_ne.mpr j1
                clear j1
                go_wp2
                go_meet
                case rel => exact ⟨true, (by first | rfl | (simp; done) | (simp [*]; done)), ⟨pw_below_drewN HW.out _⟩, ⟨pw_below_drewN (Below.refl _ _) _⟩, ⟨by rw [if_pos rfl]; exact H'.out.symm⟩⟩
            · rw [if_neg j0] at H
              have H' := Aside0.mk (Option.some.inj H)
              clear H
              have j2 : (op != 0) = true := bne_iff_ne.mpr j0
              clear j0
              go_wp2
              go_meet
              case rel => exact ⟨true, (by first | rfl | (simp; done) | (simp [*]; done)), ⟨pw_below_drewN HW.out _⟩, ⟨pw_below_drewN (Below.refl _ _) _⟩, ⟨by rw [if_pos rfl]; exact H'.out.symm⟩⟩
        case rest =>
          clear H
          obtain ⟨x, rfl, HW2, HW3, HA⟩ := hcut
          cases x with
          | true =>
            have HA' := HA.out
            rw [if_pos rfl] at HA'
            subst HA'
            clear HA
            go_wp2
            go_ret
            exact ⟨rfl, HW2.out⟩
          | false =>
            have H := HA.out
            rw [if_neg (by decide)] at H
            subst H
            have k6' := pw_cell_below HW3.out k6
            have k7' := pw_cell_below HW3.out k7
            have y3' := pw_cell_below HW3.out y3
            have y4' := pw_cell_below HW3.out y4
            clear HA k1 k2 k3 k4 k5 k6 k7 y0 y1 y2 y3 y4
            by_cases q6 : lb = 0
            · have p6 : ((lb : Int) == 0) = true := by rw [q6]; rfl
              by_cases q7 : le = 0
              · have p7 : ((le : Int) == 0) = true := by rw [q7]; rfl
                have Q6 := Aside0.mk q6
                have Q7 := Aside0.mk q7
                clear q6 q7
                cases nd <;> cases no <;> (go_wp2; go_ret; exact ⟨by simp [Q6.out, Q7.out], HW2.out⟩)
              · have p7 : ((le : Int) == 0) = false := beq_eq_false_iff_ne.mpr (by omega)
                have Q6 := Aside0.mk q6
                have Q7 := Aside0.mk q7
                clear q6 q7
                cases nd <;> cases no <;> (go_wp2; go_ret; exact ⟨by simp [Q6.out, Q7.out], HW2.out⟩)
            · have p6 : ((lb : Int) == 0) = false := beq_eq_false_iff_ne.mpr (by omega)
              have Q6 := Aside0.mk q6
              clear q6
              cases nd with
              | false =>
                go_wp2
                go_ret
                exact ⟨by simp [Q6.out], HW2.out⟩
              | true =>
                by_cases q7 : le = 0
                · have p7 : ((le : Int) == 0) = true := by rw [q7]; rfl
                  have Q7 := Aside0.mk q7
                  clear q7
                  cases no <;> (go_wp2; go_ret; exact ⟨by simp [p7, Q7.out], HW2.out⟩)
                · have p7 : ((le : Int) == 0) = false := beq_eq_false_iff_ne.mpr (by omega)
                  have Q7 := Aside0.mk q7
                  clear q7
                  cases no <;> (go_wp2; go_ret; exact ⟨by simp [p7, Q7.out], HW2.out⟩)

end Go.Proofs.Ytpcbfcaacilghaa.PA

-- made by a program of this session (wip/myprint.py over the kit's print)
import Derived.Test.YtajifknepdikbaaV
import Derived.Test.YtajifknepdikbaaPAx0
import Derived.Test.YtajifknepdikbaaPAx1
import Derived.Test.YtajifknepdikbaaPAx13
namespace Go.Proofs.Ytajifknepdikbaa.PA
open Go.RowKit Go.Proofs.YtajifknepdikbaaW.PrintWords Go.Proofs.YtajifknepdikbaaW.PrintLast Go.Proofs.YtajifknepdikbaaW.PrintMore
attribute [local go_sem] max2_int min2_int max_two min_two max_three min_three max_four min_four   -- for this text's walks alone
set_option linter.unusedVariables false
set_option linter.unusedSimpArgs false

/-! ### impl_exprEval: function 53 -/
theorem impl_exprEval.mono_l : ∀ k, (∀ y0 y1 y2 y3, LeO (impl_exprEval.f k y0 y1 y2 y3) (impl_exprEval.f (k + 1) y0 y1 y2 y3))
  | 0 => fun _ _ _ _ r h => by simp [impl_exprEval.f] at h
  | k + 1 => by
    have ih0 := impl_exprEval.mono_l k
    · intro y0 y1 y2 y3
      unfold impl_exprEval.f
      repeat' first
      | (with_reducible exact ih0 _ _ _ _)
      | (with_reducible exact LeO.refl _)
      | (with_reducible exact LeO.none _)
      | (with_reducible refine LeO.ite ?_ ?_)
      | (with_reducible refine LeO.bind ?_ (fun _ => ?_))
      | exact ih0 _ _ _ _
      | exact LeO.none _
      | refine LeO.ite ?_ ?_
      | refine LeO.bind ?_ (fun _ => ?_)
theorem impl_exprEval.mono : ∀ a0 a1 a2 a3 k, LeO (impl_exprEval.f k a0 a1 a2 a3) (impl_exprEval.f (k + 1) a0 a1 a2 a3) := by
  intro a0 a1 a2 a3 k
  have ih0 := impl_exprEval.mono_l k
  exact ih0 a0 a1 a2 a3
set_option maxHeartbeats 8000000 in
set_option maxRecDepth 100000 in
theorem impl_exprEval.callsP (k : Nat) : ∀ (g : Addr) (a0_0 : Int) (a0_1 : Int) (A0_2 : Option Addr) (c0_2 : Nat) (l0_2 : List (S25)) (A1 : Option Addr) (c1 : Nat) (l1 : List Int) (r : Int) (w : World)
    (hg0 : w.cell? g = some (.int .i64 a0_0)) (hg1 : w.cell? ⟨g.block, g.off + 1, none⟩ = some (.int .i64 a0_1)) (hg2 : w.cell? ⟨g.block, g.off + 2, none⟩ = some (.slice A0_2 l0_2.length c0_2)) (hr0_2 : Kd.C k25 w A0_2 l0_2.length l0_2) (hc0_2 : l0_2.length ≤ c0_2) (hr1 : Kd.C (Kd.int .i64) w A1 l1.length l1) (hc1 : l1.length ≤ c1) (h : impl_exprEval.f k a0_0 a0_1 l0_2 l1 = some r),
    Calls Try.prog 53 #[.pointer (some g), .slice A1 l1.length c1] w fun e w' => e = .returned (.int .i64 r) ∧ Drawn0 w w' := by
  induction k using Nat.strongRecOn with
  | _ k ih =>
  intro g a0_0 a0_1 A0_2 c0_2 l0_2 A1 c1 l1 r w hg0 hg1 hg2 hr0_2 hc0_2 hr1 hc1 h
  cases k with
  | zero => exact absurd h (by simp [impl_exprEval.f])
  | succ k =>
  simp only [impl_exprEval.f] at h
  by_cases c3 : a0_0 = 0
  · rw [if_pos c3] at h
    have c3b0 : (a0_0 == 0) = true := beq_iff_eq.mpr c3
    clear c3
    obtain rfl := Option.some.inj h
    go_enter Try.func53, Try.ntmps53
    go_wp2
    go_ret
    exact ⟨by first | rfl | (simp; done) | (simp [*]; done), ab17_⟩
  · rw [if_neg c3] at h
    have c3b0 : (a0_0 == 0) = false := beq_eq_false_iff_ne.mpr c3
    by_cases c6 : a0_0 = 13
    · rw [if_pos c6] at h
      have c6b0 : (a0_0 == 13) = true := beq_iff_eq.mpr c6
      clear c6
      by_cases c7 : 0 ≤ a0_1
      · rw [if_pos c7] at h
        by_cases c8 : a0_1 < (l1.length : Int)
        · rw [if_pos c8] at h
          obtain rfl := Option.some.inj h
          obtain ⟨ad1, rfl, hx⟩ := Kd.at_int hr1 a0_1 c7 c8
          have c7b := eq_true c7
          have c8b := eq_true c8
          clear c3 hr0_2
          go_enter Try.func53, Try.ntmps53
          go_wp2
          go_ret
          exact ⟨by first | rfl | (simp; done) | (simp [*]; done), ab17_⟩
        · rw [if_neg c8] at h
          exact absurd h (by simp)
      · rw [if_neg c7] at h
        exact absurd h (by simp)
    · rw [if_neg c6] at h
      have c6b0 : (a0_0 == 13) = false := beq_eq_false_iff_ne.mpr c6
      by_cases c11 : 0 < (l0_2.length : Int)
      · rw [if_pos c11] at h
        replace h := Option.bind_eq_some_iff.mp h
        obtain ⟨x, hx, h⟩ := h
        by_cases c12 : 1 < (l0_2.length : Int)
        · rw [if_pos c12] at h
          replace h := Option.bind_eq_some_iff.mp h
          obtain ⟨y, hy, h⟩ := h
          obtain ⟨ad, A0, c0, rfl, hx0, hx1, hx2, hxl, hxi⟩ := at_T25 hr0_2 0 (by omega) c11
          obtain ⟨ad', A1', c1', e1, hy0, hy1, hy2, hyl, hyi⟩ := at_T25 hr0_2 1 (by omega) c12
          cases e1
          have HX := Aside0.mk hx
          have HY := Aside0.mk hy
          have HH := Aside0.mk h
          have HR1 := Aside0.mk hr1
          have HXI := Aside0.mk hxi
          have HYI := Aside0.mk hyi
          have IH := Aside0.mk ih
          clear hx hy h hr1 hxi hyi ih hr0_2 c3 c6
          rw [show (Int.toNat 0 * 3) = 0 from rfl, Addr.add_zero'] at hx0 hx1 hx2
          rw [show (Int.toNat 1 * 3) = 3 from rfl, show ad.add 3 = ⟨ad.block, ad.off + 3, none⟩ from rfl] at hy0 hy1 hy2
          have q0 : (0 < l0_2.length) = True := eq_true (by omega)
          have q1 : (1 < l0_2.length) = True := eq_true (by omega)
          have z0 := eq_true c11
          have z1 := eq_true c12
          go_enter Try.func53, Try.ntmps53
          go_wp2
          refine wp_region_quiet_lit (by kernel_rfl) (by kernel_rfl) ?_
          repeat (quiet_step (fail))
          refine wpQuiet_step (fun K hK => ?_)
          go_simp
          apply Exists.intro
          refine ⟨fun _ => ?_, hK _ ?_⟩
          · with_reducible refine Calls.quiet_of ((IH.out k (by omega) ad _ _ _ _ _ _ _ _ x _ ?_ ?_ ?_ (Kd.C_drewN HXI.out _) hxl (Kd.C_drewN HR1.out _) hc1 HX.out).mono (fun e w' hq => ⟨hq.1, hq.2.out⟩))
            · exact hx0
            · exact hx1
            · exact hx2
          clear hK K
          repeat (quiet_step (fail))
          refine wpQuiet_step (fun K hK => ?_)
          go_simp
          apply Exists.intro
          refine ⟨fun _ => ?_, hK _ ?_⟩
          · with_reducible refine Calls.quiet_of ((IH.out k (by omega) ⟨ad.block, ad.off + 3, none⟩ _ _ _ _ _ _ _ _ y _ ?_ ?_ ?_ (Kd.C_drewN HYI.out _) hyl (Kd.C_drewN HR1.out _) hc1 HY.out).mono (fun e w' hq => ⟨hq.1, hq.2.out⟩))
            · exact hy0
            · exact hy1
            · exact hy2
          clear hK K
          repeat (quiet_step (fail))
          refine wpQuiet_step (fun K hK => ?_)
          go_simp
          apply Exists.intro
          refine ⟨fun _ => ?_, hK _ ?_⟩
          · with_reducible refine Calls.quiet_of ((impl_apply.calls _ _ _ r _ HH.out).mono (fun e w' hq => ⟨hq.1, hq.2.out⟩))
          clear hK K
          repeat (quiet_step (fail))
          refine wpQuiet_nil ?_
          intro _ hw'
          obtain ⟨nq, hw''⟩ := hw'
          subst hw''
          go_wp2
          go_ret
          exact ⟨by first | rfl | (simp; done) | (simp [*]; done), ab17_⟩
        · rw [if_neg c12] at h
          exact absurd h (by simp)
      · rw [if_neg c11] at h
        exact absurd h (by simp)
theorem impl_exprEval.callsB (k : Nat) (g : Nat) (a0_0 : Int) (a0_1 : Int) (A0_2 : Option Addr) (c0_2 : Nat) (l0_2 : List (S25)) (A1 : Option Addr) (c1 : Nat) (l1 : List Int) (r : Int) (w : World)
    (hb : w.heap[g]? = some (.cells #[.int .i64 a0_0, .int .i64 a0_1, .slice A0_2 l0_2.length c0_2] 25 (0, 0))) (hr0_2 : Kd.C k25 w A0_2 l0_2.length l0_2) (hc0_2 : l0_2.length ≤ c0_2) (hr1 : Kd.C (Kd.int .i64) w A1 l1.length l1) (hc1 : l1.length ≤ c1) (h : impl_exprEval.f k a0_0 a0_1 l0_2 l1 = some r) :
    Calls Try.prog 53 #[.pointer (some ⟨g, 0, none⟩), .slice A1 l1.length c1] w fun e w' => e = .returned (.int .i64 r) ∧ Below w.heap.size w w' :=
  (impl_exprEval.callsP k ⟨g, 0, none⟩ a0_0 a0_1 A0_2 c0_2 l0_2 A1 c1 l1 r w ((blk_cell hb 0).trans rfl) ((blk_cell hb 1).trans rfl) ((blk_cell hb 2).trans rfl) hr0_2 hc0_2 hr1 hc1 h).mono fun _ _ hq => ⟨hq.1, hq.2.below⟩

end Go.Proofs.Ytajifknepdikbaa.PA

-- made by a program of this session (wip/myprint.py over the kit's print)
import Derived.Test.YtpifdlpieglhlaaV
import Derived.Test.YtpifdlpieglhlaaPAx0
import Derived.Test.YtpifdlpieglhlaaPAx1
import Derived.Test.YtpifdlpieglhlaaPAx46
import Derived.Test.YtpifdlpieglhlaaPAx47
import Derived.Test.YtpifdlpieglhlaaPAx52
import Derived.Test.YtpifdlpieglhlaaPAx53
import Derived.Test.YtpifdlpieglhlaaPAx54
import Derived.Test.YtpifdlpieglhlaaPAx55
namespace Go.Proofs.Ytpifdlpieglhlaa.PA
open Go.RowKit Go.Proofs.YtpifdlpieglhlaaW.PrintWords Go.Proofs.YtpifdlpieglhlaaW.PrintLast Go.Proofs.YtpifdlpieglhlaaW.PrintMore
attribute [local go_sem] max2_int min2_int max_two min_two max_three min_three max_four min_four   -- for this text's walks alone
set_option linter.unusedVariables false
set_option linter.unusedSimpArgs false

/-! ### spec_l92Stmt: function 57 -/
set_option maxHeartbeats 8000000 in
set_option maxRecDepth 100000 in
theorem spec_l92Stmt.step (k : Nat) (ih_spec_l92If : ∀ m, m < k → spec_l92If.CallsAt m) (ih_spec_l92Loop : ∀ m, m < k → spec_l92Loop.CallsAt m) (ih_spec_l92Stmt : ∀ m, m < k → spec_l92Stmt.CallsAt m) (ih_spec_l92Block : ∀ m, m < k → spec_l92Block.CallsAt m) : spec_l92Stmt.CallsAt k := by
  intro g s0_0 s0_1 a1 a2 a3 r1 r2 w0 w hI hB h
  cases k with
  | zero => exact absurd h (by simp [spec_l92Stmt.f])
  | succ k =>
  simp only [spec_l92Stmt.f] at h
  have hu36 := Try.underlying36
  have HI0 := Aside0.mk hI
  have HK := Aside0.mk (KeepBut.refl w g none)
  have HL := Aside0.mk hB.size
  clear hI
  have HW0 := Aside0.mk hB.size
  have HB := Aside0.mk hB
  clear hB
  have H : ((spec_l6Rd_pick.f k s0_0 s0_1 10).bind fun bt402 => (if bt402.1 = 0 then (spec_l92Stmt.j0 k a1 a2 a3 bt402.1 (bt402.1 == 0) s0_0 bt402.2) else (spec_l92Stmt.j0 k a1 a2 a3 bt402.1 (bt402.1 == 1) s0_0 bt402.2))) = some (r1, r2) := h
  clear h
  replace H := Option.bind_eq_some_iff.mp H
  obtain ⟨⟨t402, t403⟩, A50, H⟩ := H
  replace H : (if t402 = 0 then (spec_l92Stmt.j0 k a1 a2 a3 t402 (t402 == 0) s0_0 t403) else (spec_l92Stmt.j0 k a1 a2 a3 t402 (t402 == 1) s0_0 t403)) = some (r1, r2) := H
  have A5 := Aside0.mk A50
  clear A50
  have HC6 := Aside0.mk H
  clear H
  go_enter Try.func57, Try.ntmps57
  go_upto_if 11 with (first | ((with_reducible refine gate_callee (f := 30) rfl ?_); refine goesL_ (some 10) rfl rfl Try.func30 (by kernel_rfl) rfl #[.pointer (some ⟨g, 0, none⟩), .int .i64 10] rfl ab2_ ?_; (with_reducible refine (spec_l6Rd_pick.calls k g s0_0 s0_1 10 t402 t403 w0 _ ?side1 ?side2 A5.out).mono ?_); (case side1 => repeat (first | (with_reducible first | exact HI0.out | apply IsS61.alloc | apply IsS61.drewN | apply IsS61.drew | apply IsS61.set_1) | exact HI0.out)); (case side2 => repeat (first | (with_reducible first | exact HB.out | apply below_alloc | apply pw_below_drewN | apply below_drew1 | refine below_set ?_ (IsS61.ge HI0.out)) | exact HB.out)); rintro e w7 ⟨rfl, hi, hb, hk⟩; refine ⟨_, rfl, ?_⟩; have n0_ := Aside0.mk (KeepBut.trans ab3_ hk (.inl rfl)); have n1_ := Aside0.mk (hb); have n2_ := Aside0.mk (hi); clear HK; clear HB; clear HI0; have HK := n0_; have HB := n1_; have HI0 := n2_; clear n0_ n1_ n2_; (try clear hb); (try clear hb2); (try clear hk); (try clear hi)))
  (try simp only [Act.put, List.setIfInBounds_toArray, List.set_cons_zero, List.set_cons_succ])
  go_cut [11] (fun v11 wc => ∃ (kq : Nat) (x11_5 : Bool), v11 = .bool x11_5 ∧ Aside0 (spec_l92Stmt.j0 kq a1 a2 a3 t402 x11_5 s0_0 t403 = some (r1, r2)) ∧ Aside0 (kq ≤ k) ∧ Aside0 (IsS61 w0 wc g s0_0 t403) ∧ Aside0 (KeepBut w wc g none) ∧ Aside0 (Below w0.heap.size w0 wc))
  case first =>
    have H := HC6.out
    clear HC6
    by_cases c8 : t402 = 0
    · rw [if_pos c8] at H
      have c8b0 : (t402 == 0) = true := beq_iff_eq.mpr c8
      have c8b1 : (t402 != 0) = false := bne_eq_false_iff_eq.mpr c8
      clear c8
      (first | rw [c8b0] | (simp only [i64_w, i32_w]; rw [c8b0]) | skip)
      have H' := Aside0.mk H
      clear H
      go_wp2
      go_meet
      case rel => exact ⟨_, ((t402 == 0)), (by first | rfl | (simp; done) | (simp [*]; done)), H', ⟨by first | omega | exact Nat.le_refl _⟩, ⟨ab4_⟩, ⟨ab3_⟩, ⟨ab5_⟩⟩
    · rw [if_neg c8] at H
      have c8b0 : (t402 == 0) = false := beq_eq_false_iff_ne.mpr c8
      have c8b1 : (t402 != 0) = true := bne_iff_ne.mpr c8
      (first | rw [c8b0] | (simp only [i64_w, i32_w]; rw [c8b0]) | skip)
      have H' := Aside0.mk H
      clear H
      go_wp2
      go_meet
      case rel => exact ⟨_, ((t402 == 1)), (by first | rfl | (simp; done) | (simp [*]; done)), H', ⟨by first | omega | exact Nat.le_refl _⟩, ⟨ab4_⟩, ⟨ab3_⟩, ⟨ab5_⟩⟩
  case rest =>
    clear HC6
    try clear p2
    try clear c3
    try clear c5
    try clear c8
    try clear c8b0
    try clear c8b1
    obtain ⟨kq, x11_5, rfl, HA, HJ5, HI0, HK, HB⟩ := hcut
    cases kq with
    | zero => exact absurd HA.out (by simp [spec_l92Stmt.j0])
    | succ kj5 =>
      have H := HA.out
      clear HA
      simp only [spec_l92Stmt.j0] at H
      by_cases c9 : x11_5 = true
      · subst c9
        have H1 : ((spec_l92Set.f kj5 s0_0 t403).bind fun bt404 => (some ((([(⟨bt404.1, bt404.2.1, bt404.2.2.1, (⟨bt404.2.2.2.1, bt404.2.2.2.2.1, bt404.2.2.2.2.2.1⟩ : S34), bt404.2.2.2.2.2.2.1, bt404.2.2.2.2.2.2.2.1⟩ : S36)] : List (S36))), bt404.2.2.2.2.2.2.2.2))) = some (r1, r2) := by rw [if_pos rfl] at H; exact H
        clear H
        have H := H1
        clear H1
        replace H := Option.bind_eq_some_iff.mp H
        obtain ⟨⟨t404, t405, t406, t407, t408, t409, t412, t415, t418⟩, A100, H⟩ := H
        replace H : (some ((([(⟨t404, t405, t406, (⟨t407, t408, t409⟩ : S34), t412, t415⟩ : S36)] : List (S36))), t418)) = some (r1, r2) := H
        have A10 := Aside0.mk A100
        clear A100
        obtain ⟨y419, hy419⟩ : ∃ y_ : List (S36), y_ = (([(⟨t404, t405, t406, (⟨t407, t408, t409⟩ : S34), t412, t415⟩ : S36)] : List (S36))) := ⟨_, rfl⟩
        replace H : (some (y419, t418)) = some (r1, r2) := by first | (rw [hy419]; with_reducible exact H) | (have H2_ := (Option.bind_some _ _).symm.trans H; rw [hy419]; with_reducible exact H2_) | (have H2_ := (Option.bind_some _ _).symm.trans H; with_reducible exact H2_) | with_reducible exact H | (rw [hy419]; exact H) | exact H
        have Ny419 := Aside0.mk hy419
        clear hy419
        simp only [Option.some.injEq, Prod.mk.injEq] at H
        obtain ⟨rfl, rfl⟩ := H
        go_wp2_with (first | ((with_reducible refine gate_callee (f := 62) rfl ?_); refine goesL_ (some 15) rfl rfl Try.func62 (by kernel_rfl) rfl #[.pointer (some ⟨g, 0, none⟩)] rfl ab2_ ?_; (with_reducible refine (spec_l92Set.calls kj5 g s0_0 t403 t404 t405 t406 t407 t408 t409 t412 t415 t418 w0 _ ?side1 ?side2 A10.out).mono ?_); (case side1 => repeat (first | (with_reducible first | exact HI0.out | apply IsS61.alloc | apply IsS61.drewN | apply IsS61.drew | apply IsS61.set_1) | exact HI0.out)); (case side2 => repeat (first | (with_reducible first | exact HB.out | apply below_alloc | apply pw_below_drewN | apply below_drew1 | refine below_set ?_ (IsS61.ge HI0.out)) | exact HB.out)); rintro e w11 ⟨v410, v413, v416, rfl, ho0, ho1, ho2, hi, hb, hk⟩; refine ⟨_, rfl, ?_⟩; have n0_ := Aside0.mk (Kd.N_lower (Kd.N_mono (ok' := fun k_ => (w.heap.size ≤ k_) ∧ some k_ ≠ (v413 : Value).ownBlock ∧ some k_ ≠ (v416 : Value).ownBlock ∧ k_ ≠ g) ho0 (fun k_ hk_ => ⟨(Nat.le_trans (keep_size (w := w) (g := g) (row := none) ab3_) hk_.1), hk_.2.1, hk_.2.2, (IsS61.fresh ab4_ k_ hk_.1)⟩)) (keep_size (w := w) (g := g) (row := none) ab3_)); have n1_ := Aside0.mk (Kd.N_lower (Kd.N_mono (ok' := fun k_ => (w.heap.size ≤ k_) ∧ some k_ ≠ (v410 : Value).ownBlock ∧ some k_ ≠ (v416 : Value).ownBlock ∧ k_ ≠ g) ho1 (fun k_ hk_ => ⟨(Nat.le_trans (keep_size (w := w) (g := g) (row := none) ab3_) hk_.1), hk_.2.1, hk_.2.2, (IsS61.fresh ab4_ k_ hk_.1)⟩)) (keep_size (w := w) (g := g) (row := none) ab3_)); have n2_ := Aside0.mk (Kd.N_lower (Kd.N_mono (ok' := fun k_ => (w.heap.size ≤ k_) ∧ some k_ ≠ (v410 : Value).ownBlock ∧ some k_ ≠ (v413 : Value).ownBlock ∧ k_ ≠ g) ho2 (fun k_ hk_ => ⟨(Nat.le_trans (keep_size (w := w) (g := g) (row := none) ab3_) hk_.1), hk_.2.1, hk_.2.2, (IsS61.fresh ab4_ k_ hk_.1)⟩)) (keep_size (w := w) (g := g) (row := none) ab3_)); have n3_ := Aside0.mk (KeepBut.trans ab3_ hk (.inl rfl)); have n4_ := Aside0.mk (hb); have n5_ := Aside0.mk (hi); clear HK; clear HB; clear HI0; have HO411 := n0_; have HO414 := n1_; have HO417 := n2_; have HK := n3_; have HB := n4_; have HI0 := n5_; clear n0_ n1_ n2_ n3_ n4_ n5_; (try clear hb); (try clear hb2); (try clear hk); (try clear hi); (try clear ho0); (try clear ho1); (try clear ho2); obtain ⟨Ao12, co12, eo12⟩ := Kd.N_slice HO411.out; subst eo12; obtain ⟨Ao13, co13, eo13⟩ := Kd.N_slice HO414.out; subst eo13; obtain ⟨Ao14, co14, eo14⟩ := Kd.N_slice HO417.out; subst eo14) | ((with_reducible refine gate_dst (N := 16) rfl ?_); refine Kd.N_lit k36 _ 36 ?hg (N' := 16) ?hd (xs := ([(⟨t404, t405, t406, (⟨t407, t408, t409⟩ : S34), t412, t415⟩ : S36)] : List (S36))) (inner := [.int .i64 t404, .int .i64 t405, .int .i64 t406, .int .i64 t407, .int .i64 t408, .slice Ao12 t409.length co12, .slice Ao13 t412.length co13, .slice Ao14 t415.length co14]) (ok := (fun k_ => (w.heap.size ≤ k_) ∧ k_ ≠ g)) (okp := (fun k_ => (w.heap.size ≤ k_) ∧ k_ ≠ g)) ?hr ?hp (fun _ hk => hk) ((show ∀ k_, w11.heap.size ≤ k_ → (fun k_ => (w.heap.size ≤ k_) ∧ k_ ≠ g) k_ from fun k_ hk => ⟨(Nat.le_trans (keep_size (w := w) (g := g) (row := none) ab3_) hk), IsS61.fresh ab4_ k_ hk⟩) _ (Nat.le_refl _)) (Below.refl _ _) (Nat.le_refl _) (by simp) ?_; (case hd => rfl); (case hg => rfl); (case hr => first | (go_simp; done) | (go_simp; rfl)); (case hp => exact (Reps.c8 (show Kd.FK k36 _ _ (⟨t404, t405, t406, (⟨t407, t408, t409⟩ : S34), t412, t415⟩ : S36) [.int .i64 t404, .int .i64 t405, .int .i64 t406, .int .i64 t407, .int .i64 t408, .slice Ao12 t409.length co12, .slice Ao13 t412.length co13, .slice Ao14 t415.length co14] from (k36_mkF _ _ (⟨t404, t405, t406, (⟨t407, t408, t409⟩ : S34), t412, t415⟩ : S36) (Kd.N_reads' (Kd.N_mono (ok' := (fun k_ => (w.heap.size ≤ k_) ∧ k_ ≠ g)) (HO411.out) (fun k_ hk => ⟨hk.1, hk.2.2.2⟩))).2.1 (Kd.N_F (Kd.N_mono (ok' := (fun k_ => (w.heap.size ≤ k_) ∧ k_ ≠ g)) (HO411.out) (fun k_ hk => ⟨hk.1, hk.2.2.2⟩))) (Kd.N_reads' (Kd.N_mono (ok' := (fun k_ => (w.heap.size ≤ k_) ∧ k_ ≠ g)) (HO414.out) (fun k_ hk => ⟨hk.1, hk.2.2.2⟩))).2.1 (Kd.N_F (Kd.N_mono (ok' := (fun k_ => (w.heap.size ≤ k_) ∧ k_ ≠ g)) (HO414.out) (fun k_ hk => ⟨hk.1, hk.2.2.2⟩))) (Kd.N_reads' (Kd.N_mono (ok' := (fun k_ => (w.heap.size ≤ k_) ∧ k_ ≠ g)) (HO417.out) (fun k_ hk => ⟨hk.1, hk.2.2.2⟩))).2.1 (Kd.N_F (Kd.N_mono (ok' := (fun k_ => (w.heap.size ≤ k_) ∧ k_ ≠ g)) (HO417.out) (fun k_ hk => ⟨hk.1, hk.2.2.2⟩))))) (Reps.none _ _))); intro v420 w15 ho16 hb hg_ hnew_; clear hg_ hnew_; (first | rw [← Ny419.out] at ho16 | (simp only [Int.reduceToNat] at ho16; rw [← Ny419.out] at ho16)); have n0_ := Aside0.mk (Kd.N_lower ho16 (keep_size (w := w) (g := g) (row := none) ab3_)); have n1_ := Aside0.mk (IsS61.below ab4_ hb); have n2_ := Aside0.mk (KeepBut.trans ab3_ (KeepBut.of_below hb g none) (.inl rfl)); have n3_ := Aside0.mk (below_step ab5_ hb); clear HI0; clear HK; clear HB; clear HO411; clear HO414; clear HO417; have HO421 := n0_; have HI0 := n1_; have HK := n2_; have HB := n3_; clear n0_ n1_ n2_ n3_; clear hb ho16))
        go_ret
        exact ⟨_, ab8_, by (with_reducible repeat (first | apply Kd.N_alloc | apply Kd.N_drewN | apply Kd.N_drew)); exact Kd.N_mono HO421.out (fun _ hk => hk.1), ab4_, ab5_, ab3_⟩
      · replace c9 := Bool.eq_false_iff.mpr c9
        subst c9
        have H1 : (if t402 = 2 then (if a2 > 0 then ((spec_l92If.f kj5 s0_0 t403 a1 a2 a3).bind fun bt422 => (some ((([(⟨bt422.1, bt422.2.1, bt422.2.2.1, (⟨bt422.2.2.2.1, bt422.2.2.2.2.1, bt422.2.2.2.2.2.1⟩ : S34), bt422.2.2.2.2.2.2.1, bt422.2.2.2.2.2.2.2.1⟩ : S36)] : List (S36))), bt422.2.2.2.2.2.2.2.2))) else ((spec_l6Rd_pick.f kj5 s0_0 t403 3).bind fun bt440 => ((spec_l91Expr.f kj5 s0_0 bt440.2 (wrap64 (1 + bt440.1))).bind fun bt442 => (some ((([(⟨7, 0, 0, (⟨bt442.1, bt442.2.1, bt442.2.2.1⟩ : S34), ([] : List (S36)), ([] : List (S36))⟩ : S36)] : List (S36))), bt442.2.2.2))))) else (if t402 = 3 then (if a2 > 0 then (spec_l92Stmt.j1 kj5 a1 a2 a3 s0_0 t403) else (spec_l92Stmt.j1 kj5 a1 a2 false s0_0 t403)) else (if t402 = 4 then (spec_l92Stmt.j2 kj5 a1 t402 (t402 == 4) s0_0 t403) else (if t402 = 5 then (spec_l92Stmt.j2 kj5 a1 t402 (t402 == 5) s0_0 t403) else (spec_l92Stmt.j2 kj5 a1 t402 (t402 == 6) s0_0 t403))))) = some (r1, r2) := by rw [if_neg (show ¬ (false = true) by decide)] at H; exact H
        clear H
        have H := H1
        clear H1
        by_cases c17 : t402 = 2
        · rw [if_pos c17] at H
          have c17b0 : (t402 == 2) = true := beq_iff_eq.mpr c17
          have c17b1 : (t402 != 2) = false := bne_eq_false_iff_eq.mpr c17
          clear c17
          by_cases c18 : a2 > 0
          · rw [if_pos c18] at H
            have c18b0 : decide (0 < a2) = true := decide_eq_true c18
            clear c18
            replace H := Option.bind_eq_some_iff.mp H
            obtain ⟨⟨t422, t423, t424, t425, t426, t427, t430, t433, t436⟩, A190, H⟩ := H
            replace H : (some ((([(⟨t422, t423, t424, (⟨t425, t426, t427⟩ : S34), t430, t433⟩ : S36)] : List (S36))), t436)) = some (r1, r2) := H
            have A19 := Aside0.mk A190
            clear A190
            obtain ⟨y437, hy437⟩ : ∃ y_ : List (S36), y_ = (([(⟨t422, t423, t424, (⟨t425, t426, t427⟩ : S34), t430, t433⟩ : S36)] : List (S36))) := ⟨_, rfl⟩
            replace H : (some (y437, t436)) = some (r1, r2) := by first | (rw [hy437]; with_reducible exact H) | (have H2_ := (Option.bind_some _ _).symm.trans H; rw [hy437]; with_reducible exact H2_) | (have H2_ := (Option.bind_some _ _).symm.trans H; with_reducible exact H2_) | with_reducible exact H | (rw [hy437]; exact H) | exact H
            have Ny437 := Aside0.mk hy437
            clear hy437
            simp only [Option.some.injEq, Prod.mk.injEq] at H
            obtain ⟨rfl, rfl⟩ := H
            go_wp2_with (first | ((with_reducible refine gate_callee (f := 40) rfl ?_); refine goesL_ (some 25) rfl rfl Try.func40 (by kernel_rfl) rfl #[.pointer (some ⟨g, 0, none⟩), .int .i64 a1, .int .i64 a2, .bool a3] rfl ab2_ ?_; (with_reducible refine (ih_spec_l92If kj5 (by have := HJ5.out; omega) g s0_0 t403 a1 a2 a3 t422 t423 t424 t425 t426 t427 t430 t433 t436 w0 _ ?side1 ?side2 A19.out).mono ?_); (case side1 => repeat (first | (with_reducible first | exact HI0.out | apply IsS61.alloc | apply IsS61.drewN | apply IsS61.drew | apply IsS61.set_1) | exact HI0.out)); (case side2 => repeat (first | (with_reducible first | exact HB.out | apply below_alloc | apply pw_below_drewN | apply below_drew1 | refine below_set ?_ (IsS61.ge HI0.out)) | exact HB.out)); rintro e w20 ⟨v428, v431, v434, rfl, ho0, ho1, ho2, hi, hb, hk⟩; refine ⟨_, rfl, ?_⟩; have n0_ := Aside0.mk (Kd.N_lower (Kd.N_mono (ok' := fun k_ => (w.heap.size ≤ k_) ∧ some k_ ≠ (v431 : Value).ownBlock ∧ some k_ ≠ (v434 : Value).ownBlock ∧ k_ ≠ g) ho0 (fun k_ hk_ => ⟨(Nat.le_trans (keep_size (w := w) (g := g) (row := none) ab3_) hk_.1), hk_.2.1, hk_.2.2, (IsS61.fresh ab4_ k_ hk_.1)⟩)) (keep_size (w := w) (g := g) (row := none) ab3_)); have n1_ := Aside0.mk (Kd.N_lower (Kd.N_mono (ok' := fun k_ => (w.heap.size ≤ k_) ∧ some k_ ≠ (v428 : Value).ownBlock ∧ some k_ ≠ (v434 : Value).ownBlock ∧ k_ ≠ g) ho1 (fun k_ hk_ => ⟨(Nat.le_trans (keep_size (w := w) (g := g) (row := none) ab3_) hk_.1), hk_.2.1, hk_.2.2, (IsS61.fresh ab4_ k_ hk_.1)⟩)) (keep_size (w := w) (g := g) (row := none) ab3_)); have n2_ := Aside0.mk (Kd.N_lower (Kd.N_mono (ok' := fun k_ => (w.heap.size ≤ k_) ∧ some k_ ≠ (v428 : Value).ownBlock ∧ some k_ ≠ (v431 : Value).ownBlock ∧ k_ ≠ g) ho2 (fun k_ hk_ => ⟨(Nat.le_trans (keep_size (w := w) (g := g) (row := none) ab3_) hk_.1), hk_.2.1, hk_.2.2, (IsS61.fresh ab4_ k_ hk_.1)⟩)) (keep_size (w := w) (g := g) (row := none) ab3_)); have n3_ := Aside0.mk (KeepBut.trans ab3_ hk (.inl rfl)); have n4_ := Aside0.mk (hb); have n5_ := Aside0.mk (hi); clear HK; clear HB; clear HI0; have HO429 := n0_; have HO432 := n1_; have HO435 := n2_; have HK := n3_; have HB := n4_; have HI0 := n5_; clear n0_ n1_ n2_ n3_ n4_ n5_; (try clear hb); (try clear hb2); (try clear hk); (try clear hi); (try clear ho0); (try clear ho1); (try clear ho2); obtain ⟨Ao21, co21, eo21⟩ := Kd.N_slice HO429.out; subst eo21; obtain ⟨Ao22, co22, eo22⟩ := Kd.N_slice HO432.out; subst eo22; obtain ⟨Ao23, co23, eo23⟩ := Kd.N_slice HO435.out; subst eo23) | ((with_reducible refine gate_dst (N := 26) rfl ?_); refine Kd.N_lit k36 _ 36 ?hg (N' := 26) ?hd (xs := ([(⟨t422, t423, t424, (⟨t425, t426, t427⟩ : S34), t430, t433⟩ : S36)] : List (S36))) (inner := [.int .i64 t422, .int .i64 t423, .int .i64 t424, .int .i64 t425, .int .i64 t426, .slice Ao21 t427.length co21, .slice Ao22 t430.length co22, .slice Ao23 t433.length co23]) (ok := (fun k_ => (w.heap.size ≤ k_) ∧ k_ ≠ g)) (okp := (fun k_ => (w.heap.size ≤ k_) ∧ k_ ≠ g)) ?hr ?hp (fun _ hk => hk) ((show ∀ k_, w20.heap.size ≤ k_ → (fun k_ => (w.heap.size ≤ k_) ∧ k_ ≠ g) k_ from fun k_ hk => ⟨(Nat.le_trans (keep_size (w := w) (g := g) (row := none) ab3_) hk), IsS61.fresh ab4_ k_ hk⟩) _ (Nat.le_refl _)) (Below.refl _ _) (Nat.le_refl _) (by simp) ?_; (case hd => rfl); (case hg => rfl); (case hr => first | (go_simp; done) | (go_simp; rfl)); (case hp => exact (Reps.c8 (show Kd.FK k36 _ _ (⟨t422, t423, t424, (⟨t425, t426, t427⟩ : S34), t430, t433⟩ : S36) [.int .i64 t422, .int .i64 t423, .int .i64 t424, .int .i64 t425, .int .i64 t426, .slice Ao21 t427.length co21, .slice Ao22 t430.length co22, .slice Ao23 t433.length co23] from (k36_mkF _ _ (⟨t422, t423, t424, (⟨t425, t426, t427⟩ : S34), t430, t433⟩ : S36) (Kd.N_reads' (Kd.N_mono (ok' := (fun k_ => (w.heap.size ≤ k_) ∧ k_ ≠ g)) (HO429.out) (fun k_ hk => ⟨hk.1, hk.2.2.2⟩))).2.1 (Kd.N_F (Kd.N_mono (ok' := (fun k_ => (w.heap.size ≤ k_) ∧ k_ ≠ g)) (HO429.out) (fun k_ hk => ⟨hk.1, hk.2.2.2⟩))) (Kd.N_reads' (Kd.N_mono (ok' := (fun k_ => (w.heap.size ≤ k_) ∧ k_ ≠ g)) (HO432.out) (fun k_ hk => ⟨hk.1, hk.2.2.2⟩))).2.1 (Kd.N_F (Kd.N_mono (ok' := (fun k_ => (w.heap.size ≤ k_) ∧ k_ ≠ g)) (HO432.out) (fun k_ hk => ⟨hk.1, hk.2.2.2⟩))) (Kd.N_reads' (Kd.N_mono (ok' := (fun k_ => (w.heap.size ≤ k_) ∧ k_ ≠ g)) (HO435.out) (fun k_ hk => ⟨hk.1, hk.2.2.2⟩))).2.1 (Kd.N_F (Kd.N_mono (ok' := (fun k_ => (w.heap.size ≤ k_) ∧ k_ ≠ g)) (HO435.out) (fun k_ hk => ⟨hk.1, hk.2.2.2⟩))))) (Reps.none _ _))); intro v438 w24 ho25 hb hg_ hnew_; clear hg_ hnew_; (first | rw [← Ny437.out] at ho25 | (simp only [Int.reduceToNat] at ho25; rw [← Ny437.out] at ho25)); have n0_ := Aside0.mk (Kd.N_lower ho25 (keep_size (w := w) (g := g) (row := none) ab3_)); have n1_ := Aside0.mk (IsS61.below ab4_ hb); have n2_ := Aside0.mk (KeepBut.trans ab3_ (KeepBut.of_below hb g none) (.inl rfl)); have n3_ := Aside0.mk (below_step ab5_ hb); clear HI0; clear HK; clear HB; clear HO429; clear HO432; clear HO435; have HO439 := n0_; have HI0 := n1_; have HK := n2_; have HB := n3_; clear n0_ n1_ n2_ n3_; clear hb ho25))
            go_ret
            exact ⟨_, ab8_, by (with_reducible repeat (first | apply Kd.N_alloc | apply Kd.N_drewN | apply Kd.N_drew)); exact Kd.N_mono HO439.out (fun _ hk => hk.1), ab4_, ab5_, ab3_⟩
          · rw [if_neg c18] at H
            have c18b0 : decide (0 < a2) = false := decide_eq_false c18
            clear c18
            replace H := Option.bind_eq_some_iff.mp H
            obtain ⟨⟨t440, t441⟩, A260, H⟩ := H
            replace H : ((spec_l91Expr.f kj5 s0_0 t441 (wrap64 (1 + t440))).bind fun bt442 => (some ((([(⟨7, 0, 0, (⟨bt442.1, bt442.2.1, bt442.2.2.1⟩ : S34), ([] : List (S36)), ([] : List (S36))⟩ : S36)] : List (S36))), bt442.2.2.2))) = some (r1, r2) := H
            have A26 := Aside0.mk A260
            clear A260
            replace H := Option.bind_eq_some_iff.mp H
            obtain ⟨⟨t442, t443, t444, t447⟩, A270, H⟩ := H
            replace H : (some ((([(⟨7, 0, 0, (⟨t442, t443, t444⟩ : S34), ([] : List (S36)), ([] : List (S36))⟩ : S36)] : List (S36))), t447)) = some (r1, r2) := H
            have A27 := Aside0.mk A270
            clear A270
            obtain ⟨y448, hy448⟩ : ∃ y_ : List (S36), y_ = (([(⟨7, 0, 0, (⟨t442, t443, t444⟩ : S34), ([] : List (S36)), ([] : List (S36))⟩ : S36)] : List (S36))) := ⟨_, rfl⟩
            replace H : (some (y448, t447)) = some (r1, r2) := by first | (rw [hy448]; with_reducible exact H) | (have H2_ := (Option.bind_some _ _).symm.trans H; rw [hy448]; with_reducible exact H2_) | (have H2_ := (Option.bind_some _ _).symm.trans H; with_reducible exact H2_) | with_reducible exact H | (rw [hy448]; exact H) | exact H
            have Ny448 := Aside0.mk hy448
            clear hy448
            simp only [Option.some.injEq, Prod.mk.injEq] at H
            obtain ⟨rfl, rfl⟩ := H
            go_wp2_with (first | ((with_reducible refine gate_callee (f := 30) rfl ?_); refine goesL_ (some 52) rfl rfl Try.func30 (by kernel_rfl) rfl #[.pointer (some ⟨g, 0, none⟩), .int .i64 3] rfl ab2_ ?_; (with_reducible refine (spec_l6Rd_pick.calls kj5 g s0_0 t403 3 t440 t441 w0 _ ?side1 ?side2 A26.out).mono ?_); (case side1 => repeat (first | (with_reducible first | exact HI0.out | apply IsS61.alloc | apply IsS61.drewN | apply IsS61.drew | apply IsS61.set_1) | exact HI0.out)); (case side2 => repeat (first | (with_reducible first | exact HB.out | apply below_alloc | apply pw_below_drewN | apply below_drew1 | refine below_set ?_ (IsS61.ge HI0.out)) | exact HB.out)); rintro e w28 ⟨rfl, hi, hb, hk⟩; refine ⟨_, rfl, ?_⟩; have n0_ := Aside0.mk (KeepBut.trans ab3_ hk (.inl rfl)); have n1_ := Aside0.mk (hb); have n2_ := Aside0.mk (hi); clear HK; clear HB; clear HI0; have HK := n0_; have HB := n1_; have HI0 := n2_; clear n0_ n1_ n2_; (try clear hb); (try clear hb2); (try clear hk); (try clear hi)) | ((with_reducible refine gate_callee (f := 51) rfl ?_); refine goesL_ (some 54) rfl rfl Try.func51 (by kernel_rfl) rfl #[.pointer (some ⟨g, 0, none⟩), .int .i64 (wrap64 (1 + t440))] rfl ab2_ ?_; (with_reducible refine (spec_l91Expr.calls kj5 g s0_0 t441 (wrap64 (1 + t440)) t442 t443 t444 t447 w0 _ ?side1 ?side2 A27.out).mono ?_); (case side1 => repeat (first | (with_reducible first | exact HI0.out | apply IsS61.alloc | apply IsS61.drewN | apply IsS61.drew | apply IsS61.set_1) | exact HI0.out)); (case side2 => repeat (first | (with_reducible first | exact HB.out | apply below_alloc | apply pw_below_drewN | apply below_drew1 | refine below_set ?_ (IsS61.ge HI0.out)) | exact HB.out)); rintro e w29 ⟨v445, rfl, ho0, hi, hb, hk⟩; refine ⟨_, rfl, ?_⟩; have n0_ := Aside0.mk (Kd.N_lower (Kd.N_mono (ok' := fun k_ => (w.heap.size ≤ k_) ∧ k_ ≠ g) ho0 (fun k_ hk_ => ⟨(Nat.le_trans (keep_size (w := w) (g := g) (row := none) ab3_) hk_), (IsS61.fresh ab4_ k_ hk_)⟩)) (keep_size (w := w) (g := g) (row := none) ab3_)); have n1_ := Aside0.mk (KeepBut.trans ab3_ hk (.inl rfl)); have n2_ := Aside0.mk (hb); have n3_ := Aside0.mk (hi); clear HK; clear HB; clear HI0; have HO446 := n0_; have HK := n1_; have HB := n2_; have HI0 := n3_; clear n0_ n1_ n2_ n3_; (try clear hb); (try clear hb2); (try clear hk); (try clear hi); (try clear ho0); obtain ⟨Ao30, co30, eo30⟩ := Kd.N_slice HO446.out; subst eo30) | ((with_reducible refine gate_dst (N := 56) rfl ?_); refine Kd.N_lit k36 _ 36 ?hg (N' := 56) ?hd (xs := ([(⟨7, 0, 0, (⟨t442, t443, t444⟩ : S34), ([] : List (S36)), ([] : List (S36))⟩ : S36)] : List (S36))) (inner := [.int .i64 7, .int .i64 0, .int .i64 0, .int .i64 t442, .int .i64 t443, .slice Ao30 t444.length co30, .slice none 0 0, .slice none 0 0]) (ok := (fun k_ => (w.heap.size ≤ k_) ∧ k_ ≠ g)) (okp := (fun k_ => (w.heap.size ≤ k_) ∧ k_ ≠ g)) ?hr ?hp (fun _ hk => hk) ((show ∀ k_, w29.heap.size ≤ k_ → (fun k_ => (w.heap.size ≤ k_) ∧ k_ ≠ g) k_ from fun k_ hk => ⟨(Nat.le_trans (keep_size (w := w) (g := g) (row := none) ab3_) hk), IsS61.fresh ab4_ k_ hk⟩) _ (Nat.le_refl _)) (Below.refl _ _) (Nat.le_refl _) (by simp) ?_; (case hd => rfl); (case hg => rfl); (case hr => first | (go_simp; done) | (go_simp; rfl)); (case hp => exact (Reps.c8 (show Kd.FK k36 _ _ (⟨7, 0, 0, (⟨t442, t443, t444⟩ : S34), ([] : List (S36)), ([] : List (S36))⟩ : S36) [.int .i64 7, .int .i64 0, .int .i64 0, .int .i64 t442, .int .i64 t443, .slice Ao30 t444.length co30, .slice none 0 0, .slice none 0 0] from (k36_mkF _ _ (⟨7, 0, 0, (⟨t442, t443, t444⟩ : S34), ([] : List (S36)), ([] : List (S36))⟩ : S36) (Kd.N_reads' (Kd.N_mono (ok' := (fun k_ => (w.heap.size ≤ k_) ∧ k_ ≠ g)) (HO446.out) (fun k_ hk => ⟨hk.1, hk.2⟩))).2.1 (Kd.N_F (Kd.N_mono (ok' := (fun k_ => (w.heap.size ≤ k_) ∧ k_ ≠ g)) (HO446.out) (fun k_ hk => ⟨hk.1, hk.2⟩))) (Nat.le_refl _) (Kd.F_nil _ _ _) (Nat.le_refl _) (Kd.F_nil _ _ _))) (Reps.none _ _))); intro v449 w31 ho32 hb hg_ hnew_; clear hg_ hnew_; (first | rw [← Ny448.out] at ho32 | (simp only [Int.reduceToNat] at ho32; rw [← Ny448.out] at ho32)); have n0_ := Aside0.mk (Kd.N_lower ho32 (keep_size (w := w) (g := g) (row := none) ab3_)); have n1_ := Aside0.mk (IsS61.below ab4_ hb); have n2_ := Aside0.mk (KeepBut.trans ab3_ (KeepBut.of_below hb g none) (.inl rfl)); have n3_ := Aside0.mk (below_step ab5_ hb); clear HI0; clear HK; clear HB; clear HO446; have HO450 := n0_; have HI0 := n1_; have HK := n2_; have HB := n3_; clear n0_ n1_ n2_ n3_; clear hb ho32))
            go_ret
            exact ⟨_, ab8_, by (with_reducible repeat (first | apply Kd.N_alloc | apply Kd.N_drewN | apply Kd.N_drew)); exact Kd.N_mono HO450.out (fun _ hk => hk.1), ab4_, ab5_, ab3_⟩
        · rw [if_neg c17] at H
          have c17b0 : (t402 == 2) = false := beq_eq_false_iff_ne.mpr c17
          have c17b1 : (t402 != 2) = true := bne_iff_ne.mpr c17
          by_cases c33 : t402 = 3
          · rw [if_pos c33] at H
            have c33b0 : (t402 == 3) = true := beq_iff_eq.mpr c33
            have c33b1 : (t402 != 3) = false := bne_eq_false_iff_eq.mpr c33
            clear c33
            have HC34 := Aside0.mk H
            clear H
            go_upto_region 9 with (fail)
            go_cut [33] (fun v33 wc => ∃ (kq : Nat) (x33_33 : Bool), v33 = .bool x33_33 ∧ Aside0 (spec_l92Stmt.j1 kq a1 a2 x33_33 s0_0 t403 = some (r1, r2)) ∧ Aside0 (kq ≤ kj5) ∧ Aside0 (IsS61 w0 wc g s0_0 t403) ∧ Aside0 (KeepBut w wc g none) ∧ Aside0 (Below w0.heap.size w0 wc))
            case first =>
              have H := HC34.out
              clear HC34
              by_cases c35 : a2 > 0
              · rw [if_pos c35] at H
                have c35b0 : decide (0 < a2) = true := decide_eq_true c35
                clear c35
                (first | rw [c35b0] | (simp only [i64_w, i32_w]; rw [c35b0]) | skip)
                have H' := Aside0.mk H
                clear H
                go_wp2
                go_meet
                case rel => exact ⟨_, (a3), (by first | rfl | (simp; done) | (simp [*]; done)), H', ⟨by have := HJ5.out; first | omega | exact Nat.le_refl _⟩, ⟨ab4_⟩, ⟨ab3_⟩, ⟨ab5_⟩⟩
              · rw [if_neg c35] at H
                have c35b0 : decide (0 < a2) = false := decide_eq_false c35
                clear c35
                (first | rw [c35b0] | (simp only [i64_w, i32_w]; rw [c35b0]) | skip)
                have H' := Aside0.mk H
                clear H
                go_wp2
                go_meet
                case rel => exact ⟨_, (false), (by first | rfl | (simp; done) | (simp [*]; done)), H', ⟨by have := HJ5.out; first | omega | exact Nat.le_refl _⟩, ⟨ab4_⟩, ⟨ab3_⟩, ⟨ab5_⟩⟩
            case rest =>
              clear HC34
              try clear c1
              try clear p2
              try clear c3
              try clear c4
              try clear c5
              try clear c6
              try clear p6
              try clear c8
              try clear c8b0
              try clear c8b1
              try clear c9
              try clear c17
              try clear c17b0
              try clear c17b1
              try clear c18
              try clear c18b0
              try clear c30
              try clear c33
              try clear c33b0
              try clear c33b1
              try clear c35
              try clear c35b0
              try clear p2
              obtain ⟨kq, x33_33, rfl, HA, HJ33, HI0, HK, HB⟩ := hcut
              cases kq with
              | zero => exact absurd HA.out (by simp [spec_l92Stmt.j1])
              | succ kj33 =>
                have H := HA.out
                clear HA
                simp only [spec_l92Stmt.j1] at H
                by_cases c36 : x33_33 = true
                · subst c36
                  have H1 : ((spec_l92Loop.f kj33 s0_0 t403 a1 a2).bind fun bt451 => (some (bt451.1, bt451.2))) = some (r1, r2) := by rw [if_pos rfl] at H; exact H
                  clear H
                  have H := H1
                  clear H1
                  replace H := Option.bind_eq_some_iff.mp H
                  obtain ⟨⟨t451, t454⟩, A370, H⟩ := H
                  replace H : (some (t451, t454)) = some (r1, r2) := H
                  have A37 := Aside0.mk A370
                  clear A370
                  simp only [Option.some.injEq, Prod.mk.injEq] at H
                  obtain ⟨rfl, rfl⟩ := H
                  go_wp2_with (first | ((with_reducible refine gate_callee (f := 63) rfl ?_); refine goesL_ (some 37) rfl rfl Try.func63 (by kernel_rfl) rfl #[.pointer (some ⟨g, 0, none⟩), .int .i64 a1, .int .i64 a2] rfl ab2_ ?_; (with_reducible refine (ih_spec_l92Loop kj33 (by have := HJ5.out; have := HJ33.out; omega) g s0_0 t403 a1 a2 t451 t454 w0 _ ?side1 ?side2 A37.out).mono ?_); (case side1 => repeat (first | (with_reducible first | exact HI0.out | apply IsS61.alloc | apply IsS61.drewN | apply IsS61.drew | apply IsS61.set_1) | exact HI0.out)); (case side2 => repeat (first | (with_reducible first | exact HB.out | apply below_alloc | apply pw_below_drewN | apply below_drew1 | refine below_set ?_ (IsS61.ge HI0.out)) | exact HB.out)); rintro e w38 ⟨v452, rfl, ho0, hi, hb, hk⟩; refine ⟨_, rfl, ?_⟩; have n0_ := Aside0.mk (Kd.N_lower (Kd.N_mono (ok' := fun k_ => (w.heap.size ≤ k_) ∧ k_ ≠ g) ho0 (fun k_ hk_ => ⟨(Nat.le_trans (keep_size (w := w) (g := g) (row := none) ab3_) hk_), (IsS61.fresh ab4_ k_ hk_)⟩)) (keep_size (w := w) (g := g) (row := none) ab3_)); have n1_ := Aside0.mk (KeepBut.trans ab3_ hk (.inl rfl)); have n2_ := Aside0.mk (hb); have n3_ := Aside0.mk (hi); clear HK; clear HB; clear HI0; have HO453 := n0_; have HK := n1_; have HB := n2_; have HI0 := n3_; clear n0_ n1_ n2_ n3_; (try clear hb); (try clear hb2); (try clear hk); (try clear hi); (try clear ho0)))
                  go_ret
                  exact ⟨_, ab8_, by (with_reducible repeat (first | apply Kd.N_alloc | apply Kd.N_drewN | apply Kd.N_drew)); exact Kd.N_mono HO453.out (fun _ hk => hk.1), ab4_, ab5_, ab3_⟩
                · replace c36 := Bool.eq_false_iff.mpr c36
                  subst c36
                  have H1 : ((spec_l6Rd_pick.f kj33 s0_0 t403 3).bind fun bt455 => ((spec_l91Expr.f kj33 s0_0 bt455.2 (wrap64 (1 + bt455.1))).bind fun bt457 => (some ((([(⟨7, 0, 0, (⟨bt457.1, bt457.2.1, bt457.2.2.1⟩ : S34), ([] : List (S36)), ([] : List (S36))⟩ : S36)] : List (S36))), bt457.2.2.2)))) = some (r1, r2) := by rw [if_neg (show ¬ (false = true) by decide)] at H; exact H
                  clear H
                  have H := H1
                  clear H1
                  replace H := Option.bind_eq_some_iff.mp H
                  obtain ⟨⟨t455, t456⟩, A390, H⟩ := H
                  replace H : ((spec_l91Expr.f kj33 s0_0 t456 (wrap64 (1 + t455))).bind fun bt457 => (some ((([(⟨7, 0, 0, (⟨bt457.1, bt457.2.1, bt457.2.2.1⟩ : S34), ([] : List (S36)), ([] : List (S36))⟩ : S36)] : List (S36))), bt457.2.2.2))) = some (r1, r2) := H
                  have A39 := Aside0.mk A390
                  clear A390
                  replace H := Option.bind_eq_some_iff.mp H
                  obtain ⟨⟨t457, t458, t459, t462⟩, A400, H⟩ := H
                  replace H : (some ((([(⟨7, 0, 0, (⟨t457, t458, t459⟩ : S34), ([] : List (S36)), ([] : List (S36))⟩ : S36)] : List (S36))), t462)) = some (r1, r2) := H
                  have A40 := Aside0.mk A400
                  clear A400
                  obtain ⟨y463, hy463⟩ : ∃ y_ : List (S36), y_ = (([(⟨7, 0, 0, (⟨t457, t458, t459⟩ : S34), ([] : List (S36)), ([] : List (S36))⟩ : S36)] : List (S36))) := ⟨_, rfl⟩
                  replace H : (some (y463, t462)) = some (r1, r2) := by first | (rw [hy463]; with_reducible exact H) | (have H2_ := (Option.bind_some _ _).symm.trans H; rw [hy463]; with_reducible exact H2_) | (have H2_ := (Option.bind_some _ _).symm.trans H; with_reducible exact H2_) | with_reducible exact H | (rw [hy463]; exact H) | exact H
                  have Ny463 := Aside0.mk hy463
                  clear hy463
                  simp only [Option.some.injEq, Prod.mk.injEq] at H
                  obtain ⟨rfl, rfl⟩ := H
                  go_wp2_with (first | ((with_reducible refine gate_callee (f := 30) rfl ?_); refine goesL_ (some 52) rfl rfl Try.func30 (by kernel_rfl) rfl #[.pointer (some ⟨g, 0, none⟩), .int .i64 3] rfl ab2_ ?_; (with_reducible refine (spec_l6Rd_pick.calls kj33 g s0_0 t403 3 t455 t456 w0 _ ?side1 ?side2 A39.out).mono ?_); (case side1 => repeat (first | (with_reducible first | exact HI0.out | apply IsS61.alloc | apply IsS61.drewN | apply IsS61.drew | apply IsS61.set_1) | exact HI0.out)); (case side2 => repeat (first | (with_reducible first | exact HB.out | apply below_alloc | apply pw_below_drewN | apply below_drew1 | refine below_set ?_ (IsS61.ge HI0.out)) | exact HB.out)); rintro e w41 ⟨rfl, hi, hb, hk⟩; refine ⟨_, rfl, ?_⟩; have n0_ := Aside0.mk (KeepBut.trans ab3_ hk (.inl rfl)); have n1_ := Aside0.mk (hb); have n2_ := Aside0.mk (hi); clear HK; clear HB; clear HI0; have HK := n0_; have HB := n1_; have HI0 := n2_; clear n0_ n1_ n2_; (try clear hb); (try clear hb2); (try clear hk); (try clear hi)) | ((with_reducible refine gate_callee (f := 51) rfl ?_); refine goesL_ (some 54) rfl rfl Try.func51 (by kernel_rfl) rfl #[.pointer (some ⟨g, 0, none⟩), .int .i64 (wrap64 (1 + t455))] rfl ab2_ ?_; (with_reducible refine (spec_l91Expr.calls kj33 g s0_0 t456 (wrap64 (1 + t455)) t457 t458 t459 t462 w0 _ ?side1 ?side2 A40.out).mono ?_); (case side1 => repeat (first | (with_reducible first | exact HI0.out | apply IsS61.alloc | apply IsS61.drewN | apply IsS61.drew | apply IsS61.set_1) | exact HI0.out)); (case side2 => repeat (first | (with_reducible first | exact HB.out | apply below_alloc | apply pw_below_drewN | apply below_drew1 | refine below_set ?_ (IsS61.ge HI0.out)) | exact HB.out)); rintro e w42 ⟨v460, rfl, ho0, hi, hb, hk⟩; refine ⟨_, rfl, ?_⟩; have n0_ := Aside0.mk (Kd.N_lower (Kd.N_mono (ok' := fun k_ => (w.heap.size ≤ k_) ∧ k_ ≠ g) ho0 (fun k_ hk_ => ⟨(Nat.le_trans (keep_size (w := w) (g := g) (row := none) ab3_) hk_), (IsS61.fresh ab4_ k_ hk_)⟩)) (keep_size (w := w) (g := g) (row := none) ab3_)); have n1_ := Aside0.mk (KeepBut.trans ab3_ hk (.inl rfl)); have n2_ := Aside0.mk (hb); have n3_ := Aside0.mk (hi); clear HK; clear HB; clear HI0; have HO461 := n0_; have HK := n1_; have HB := n2_; have HI0 := n3_; clear n0_ n1_ n2_ n3_; (try clear hb); (try clear hb2); (try clear hk); (try clear hi); (try clear ho0); obtain ⟨Ao43, co43, eo43⟩ := Kd.N_slice HO461.out; subst eo43) | ((with_reducible refine gate_dst (N := 56) rfl ?_); refine Kd.N_lit k36 _ 36 ?hg (N' := 56) ?hd (xs := ([(⟨7, 0, 0, (⟨t457, t458, t459⟩ : S34), ([] : List (S36)), ([] : List (S36))⟩ : S36)] : List (S36))) (inner := [.int .i64 7, .int .i64 0, .int .i64 0, .int .i64 t457, .int .i64 t458, .slice Ao43 t459.length co43, .slice none 0 0, .slice none 0 0]) (ok := (fun k_ => (w.heap.size ≤ k_) ∧ k_ ≠ g)) (okp := (fun k_ => (w.heap.size ≤ k_) ∧ k_ ≠ g)) ?hr ?hp (fun _ hk => hk) ((show ∀ k_, w42.heap.size ≤ k_ → (fun k_ => (w.heap.size ≤ k_) ∧ k_ ≠ g) k_ from fun k_ hk => ⟨(Nat.le_trans (keep_size (w := w) (g := g) (row := none) ab3_) hk), IsS61.fresh ab4_ k_ hk⟩) _ (Nat.le_refl _)) (Below.refl _ _) (Nat.le_refl _) (by simp) ?_; (case hd => rfl); (case hg => rfl); (case hr => first | (go_simp; done) | (go_simp; rfl)); (case hp => exact (Reps.c8 (show Kd.FK k36 _ _ (⟨7, 0, 0, (⟨t457, t458, t459⟩ : S34), ([] : List (S36)), ([] : List (S36))⟩ : S36) [.int .i64 7, .int .i64 0, .int .i64 0, .int .i64 t457, .int .i64 t458, .slice Ao43 t459.length co43, .slice none 0 0, .slice none 0 0] from (k36_mkF _ _ (⟨7, 0, 0, (⟨t457, t458, t459⟩ : S34), ([] : List (S36)), ([] : List (S36))⟩ : S36) (Kd.N_reads' (Kd.N_mono (ok' := (fun k_ => (w.heap.size ≤ k_) ∧ k_ ≠ g)) (HO461.out) (fun k_ hk => ⟨hk.1, hk.2⟩))).2.1 (Kd.N_F (Kd.N_mono (ok' := (fun k_ => (w.heap.size ≤ k_) ∧ k_ ≠ g)) (HO461.out) (fun k_ hk => ⟨hk.1, hk.2⟩))) (Nat.le_refl _) (Kd.F_nil _ _ _) (Nat.le_refl _) (Kd.F_nil _ _ _))) (Reps.none _ _))); intro v464 w44 ho45 hb hg_ hnew_; clear hg_ hnew_; (first | rw [← Ny463.out] at ho45 | (simp only [Int.reduceToNat] at ho45; rw [← Ny463.out] at ho45)); have n0_ := Aside0.mk (Kd.N_lower ho45 (keep_size (w := w) (g := g) (row := none) ab3_)); have n1_ := Aside0.mk (IsS61.below ab4_ hb); have n2_ := Aside0.mk (KeepBut.trans ab3_ (KeepBut.of_below hb g none) (.inl rfl)); have n3_ := Aside0.mk (below_step ab5_ hb); clear HI0; clear HK; clear HB; clear HO461; have HO465 := n0_; have HI0 := n1_; have HK := n2_; have HB := n3_; clear n0_ n1_ n2_ n3_; clear hb ho45))
                  go_ret
                  exact ⟨_, ab8_, by (with_reducible repeat (first | apply Kd.N_alloc | apply Kd.N_drewN | apply Kd.N_drew)); exact Kd.N_mono HO465.out (fun _ hk => hk.1), ab4_, ab5_, ab3_⟩
          · rw [if_neg c33] at H
            have c33b0 : (t402 == 3) = false := beq_eq_false_iff_ne.mpr c33
            have c33b1 : (t402 != 3) = true := bne_iff_ne.mpr c33
            have HC46 := Aside0.mk H
            clear H
            go_upto_if 38 with (fail)
            go_cut [38] (fun v38 wc => ∃ (kq : Nat) (x38_45 : Bool), v38 = .bool x38_45 ∧ Aside0 (spec_l92Stmt.j2 kq a1 t402 x38_45 s0_0 t403 = some (r1, r2)) ∧ Aside0 (kq ≤ kj5) ∧ Aside0 (IsS61 w0 wc g s0_0 t403) ∧ Aside0 (KeepBut w wc g none) ∧ Aside0 (Below w0.heap.size w0 wc))
            case first =>
              have H := HC46.out
              clear HC46
              by_cases c47 : t402 = 4
              · rw [if_pos c47] at H
                have c47b0 : (t402 == 4) = true := beq_iff_eq.mpr c47
                have c47b1 : (t402 != 4) = false := bne_eq_false_iff_eq.mpr c47
                clear c47
                (first | rw [c47b0] | (simp only [i64_w, i32_w]; rw [c47b0]) | skip)
                have H' := Aside0.mk H
                clear H
                go_wp2
                go_meet
                case rel => exact ⟨_, ((t402 == 4)), (by first | rfl | (simp; done) | (simp [*]; done)), H', ⟨by have := HJ5.out; first | omega | exact Nat.le_refl _⟩, ⟨ab4_⟩, ⟨ab3_⟩, ⟨ab5_⟩⟩
              · rw [if_neg c47] at H
                have c47b0 : (t402 == 4) = false := beq_eq_false_iff_ne.mpr c47
                have c47b1 : (t402 != 4) = true := bne_iff_ne.mpr c47
                (first | rw [c47b0] | (simp only [i64_w, i32_w]; rw [c47b0]) | skip)
                by_cases c48 : t402 = 5
                · rw [if_pos c48] at H
                  have c48b0 : (t402 == 5) = true := beq_iff_eq.mpr c48
                  have c48b1 : (t402 != 5) = false := bne_eq_false_iff_eq.mpr c48
                  clear c48
                  have H' := Aside0.mk H
                  clear H
                  go_wp2
                  go_meet
                  case rel => exact ⟨_, ((t402 == 5)), (by first | rfl | (simp; done) | (simp [*]; done)), H', ⟨by have := HJ5.out; first | omega | exact Nat.le_refl _⟩, ⟨ab4_⟩, ⟨ab3_⟩, ⟨ab5_⟩⟩
                · rw [if_neg c48] at H
                  have c48b0 : (t402 == 5) = false := beq_eq_false_iff_ne.mpr c48
                  have c48b1 : (t402 != 5) = true := bne_iff_ne.mpr c48
                  have H' := Aside0.mk H
                  clear H
                  go_wp2
                  go_meet
                  case rel => exact ⟨_, ((t402 == 6)), (by first | rfl | (simp; done) | (simp [*]; done)), H', ⟨by have := HJ5.out; first | omega | exact Nat.le_refl _⟩, ⟨ab4_⟩, ⟨ab3_⟩, ⟨ab5_⟩⟩
            case rest =>
              clear HC46
              try clear c1
              try clear p2
              try clear c3
              try clear c4
              try clear c5
              try clear c6
              try clear p6
              try clear c8
              try clear c8b0
              try clear c8b1
              try clear c9
              try clear c17
              try clear c17b0
              try clear c17b1
              try clear c18
              try clear c18b0
              try clear c30
              try clear c33
              try clear c33b0
              try clear c33b1
              try clear c35
              try clear c35b0
              try clear c36
              try clear c40
              try clear c47
              try clear c47b0
              try clear c47b1
              try clear c48
              try clear c48b0
              try clear c48b1
              try clear p2
              try clear p6
              obtain ⟨kq, x38_45, rfl, HA, HJ45, HI0, HK, HB⟩ := hcut
              cases kq with
              | zero => exact absurd HA.out (by simp [spec_l92Stmt.j2])
              | succ kj45 =>
                have H := HA.out
                clear HA
                simp only [spec_l92Stmt.j2] at H
                by_cases c49 : x38_45 = true
                · subst c49
                  have H1 : ((spec_l92Talk.f kj45 s0_0 t403 a1).bind fun bt466 => (some ((([(⟨bt466.1, bt466.2.1, bt466.2.2.1, (⟨bt466.2.2.2.1, bt466.2.2.2.2.1, bt466.2.2.2.2.2.1⟩ : S34), bt466.2.2.2.2.2.2.1, bt466.2.2.2.2.2.2.2.1⟩ : S36)] : List (S36))), bt466.2.2.2.2.2.2.2.2))) = some (r1, r2) := by rw [if_pos rfl] at H; exact H
                  clear H
                  have H := H1
                  clear H1
                  replace H := Option.bind_eq_some_iff.mp H
                  obtain ⟨⟨t466, t467, t468, t469, t470, t471, t474, t477, t480⟩, A500, H⟩ := H
                  replace H : (some ((([(⟨t466, t467, t468, (⟨t469, t470, t471⟩ : S34), t474, t477⟩ : S36)] : List (S36))), t480)) = some (r1, r2) := H
                  have A50 := Aside0.mk A500
                  clear A500
                  obtain ⟨y481, hy481⟩ : ∃ y_ : List (S36), y_ = (([(⟨t466, t467, t468, (⟨t469, t470, t471⟩ : S34), t474, t477⟩ : S36)] : List (S36))) := ⟨_, rfl⟩
                  replace H : (some (y481, t480)) = some (r1, r2) := by first | (rw [hy481]; with_reducible exact H) | (have H2_ := (Option.bind_some _ _).symm.trans H; rw [hy481]; with_reducible exact H2_) | (have H2_ := (Option.bind_some _ _).symm.trans H; with_reducible exact H2_) | with_reducible exact H | (rw [hy481]; exact H) | exact H
                  have Ny481 := Aside0.mk hy481
                  clear hy481
                  simp only [Option.some.injEq, Prod.mk.injEq] at H
                  obtain ⟨rfl, rfl⟩ := H
                  go_wp2_with (first | ((with_reducible refine gate_callee (f := 64) rfl ?_); refine goesL_ (some 44) rfl rfl Try.func64 (by kernel_rfl) rfl #[.pointer (some ⟨g, 0, none⟩), .int .i64 a1] rfl ab2_ ?_; (with_reducible refine (spec_l92Talk.calls kj45 g s0_0 t403 a1 t466 t467 t468 t469 t470 t471 t474 t477 t480 w0 _ ?side1 ?side2 A50.out).mono ?_); (case side1 => repeat (first | (with_reducible first | exact HI0.out | apply IsS61.alloc | apply IsS61.drewN | apply IsS61.drew | apply IsS61.set_1) | exact HI0.out)); (case side2 => repeat (first | (with_reducible first | exact HB.out | apply below_alloc | apply pw_below_drewN | apply below_drew1 | refine below_set ?_ (IsS61.ge HI0.out)) | exact HB.out)); rintro e w51 ⟨v472, v475, v478, rfl, ho0, ho1, ho2, hi, hb, hk⟩; refine ⟨_, rfl, ?_⟩; have n0_ := Aside0.mk (Kd.N_lower (Kd.N_mono (ok' := fun k_ => (w.heap.size ≤ k_) ∧ some k_ ≠ (v475 : Value).ownBlock ∧ some k_ ≠ (v478 : Value).ownBlock ∧ k_ ≠ g) ho0 (fun k_ hk_ => ⟨(Nat.le_trans (keep_size (w := w) (g := g) (row := none) ab3_) hk_.1), hk_.2.1, hk_.2.2, (IsS61.fresh ab4_ k_ hk_.1)⟩)) (keep_size (w := w) (g := g) (row := none) ab3_)); have n1_ := Aside0.mk (Kd.N_lower (Kd.N_mono (ok' := fun k_ => (w.heap.size ≤ k_) ∧ some k_ ≠ (v472 : Value).ownBlock ∧ some k_ ≠ (v478 : Value).ownBlock ∧ k_ ≠ g) ho1 (fun k_ hk_ => ⟨(Nat.le_trans (keep_size (w := w) (g := g) (row := none) ab3_) hk_.1), hk_.2.1, hk_.2.2, (IsS61.fresh ab4_ k_ hk_.1)⟩)) (keep_size (w := w) (g := g) (row := none) ab3_)); have n2_ := Aside0.mk (Kd.N_lower (Kd.N_mono (ok' := fun k_ => (w.heap.size ≤ k_) ∧ some k_ ≠ (v472 : Value).ownBlock ∧ some k_ ≠ (v475 : Value).ownBlock ∧ k_ ≠ g) ho2 (fun k_ hk_ => ⟨(Nat.le_trans (keep_size (w := w) (g := g) (row := none) ab3_) hk_.1), hk_.2.1, hk_.2.2, (IsS61.fresh ab4_ k_ hk_.1)⟩)) (keep_size (w := w) (g := g) (row := none) ab3_)); have n3_ := Aside0.mk (KeepBut.trans ab3_ hk (.inl rfl)); have n4_ := Aside0.mk (hb); have n5_ := Aside0.mk (hi); clear HK; clear HB; clear HI0; have HO473 := n0_; have HO476 := n1_; have HO479 := n2_; have HK := n3_; have HB := n4_; have HI0 := n5_; clear n0_ n1_ n2_ n3_ n4_ n5_; (try clear hb); (try clear hb2); (try clear hk); (try clear hi); (try clear ho0); (try clear ho1); (try clear ho2); obtain ⟨Ao52, co52, eo52⟩ := Kd.N_slice HO473.out; subst eo52; obtain ⟨Ao53, co53, eo53⟩ := Kd.N_slice HO476.out; subst eo53; obtain ⟨Ao54, co54, eo54⟩ := Kd.N_slice HO479.out; subst eo54) | ((with_reducible refine gate_dst (N := 45) rfl ?_); refine Kd.N_lit k36 _ 36 ?hg (N' := 45) ?hd (xs := ([(⟨t466, t467, t468, (⟨t469, t470, t471⟩ : S34), t474, t477⟩ : S36)] : List (S36))) (inner := [.int .i64 t466, .int .i64 t467, .int .i64 t468, .int .i64 t469, .int .i64 t470, .slice Ao52 t471.length co52, .slice Ao53 t474.length co53, .slice Ao54 t477.length co54]) (ok := (fun k_ => (w.heap.size ≤ k_) ∧ k_ ≠ g)) (okp := (fun k_ => (w.heap.size ≤ k_) ∧ k_ ≠ g)) ?hr ?hp (fun _ hk => hk) ((show ∀ k_, w51.heap.size ≤ k_ → (fun k_ => (w.heap.size ≤ k_) ∧ k_ ≠ g) k_ from fun k_ hk => ⟨(Nat.le_trans (keep_size (w := w) (g := g) (row := none) ab3_) hk), IsS61.fresh ab4_ k_ hk⟩) _ (Nat.le_refl _)) (Below.refl _ _) (Nat.le_refl _) (by simp) ?_; (case hd => rfl); (case hg => rfl); (case hr => first | (go_simp; done) | (go_simp; rfl)); (case hp => exact (Reps.c8 (show Kd.FK k36 _ _ (⟨t466, t467, t468, (⟨t469, t470, t471⟩ : S34), t474, t477⟩ : S36) [.int .i64 t466, .int .i64 t467, .int .i64 t468, .int .i64 t469, .int .i64 t470, .slice Ao52 t471.length co52, .slice Ao53 t474.length co53, .slice Ao54 t477.length co54] from (k36_mkF _ _ (⟨t466, t467, t468, (⟨t469, t470, t471⟩ : S34), t474, t477⟩ : S36) (Kd.N_reads' (Kd.N_mono (ok' := (fun k_ => (w.heap.size ≤ k_) ∧ k_ ≠ g)) (HO473.out) (fun k_ hk => ⟨hk.1, hk.2.2.2⟩))).2.1 (Kd.N_F (Kd.N_mono (ok' := (fun k_ => (w.heap.size ≤ k_) ∧ k_ ≠ g)) (HO473.out) (fun k_ hk => ⟨hk.1, hk.2.2.2⟩))) (Kd.N_reads' (Kd.N_mono (ok' := (fun k_ => (w.heap.size ≤ k_) ∧ k_ ≠ g)) (HO476.out) (fun k_ hk => ⟨hk.1, hk.2.2.2⟩))).2.1 (Kd.N_F (Kd.N_mono (ok' := (fun k_ => (w.heap.size ≤ k_) ∧ k_ ≠ g)) (HO476.out) (fun k_ hk => ⟨hk.1, hk.2.2.2⟩))) (Kd.N_reads' (Kd.N_mono (ok' := (fun k_ => (w.heap.size ≤ k_) ∧ k_ ≠ g)) (HO479.out) (fun k_ hk => ⟨hk.1, hk.2.2.2⟩))).2.1 (Kd.N_F (Kd.N_mono (ok' := (fun k_ => (w.heap.size ≤ k_) ∧ k_ ≠ g)) (HO479.out) (fun k_ hk => ⟨hk.1, hk.2.2.2⟩))))) (Reps.none _ _))); intro v482 w55 ho56 hb hg_ hnew_; clear hg_ hnew_; (first | rw [← Ny481.out] at ho56 | (simp only [Int.reduceToNat] at ho56; rw [← Ny481.out] at ho56)); have n0_ := Aside0.mk (Kd.N_lower ho56 (keep_size (w := w) (g := g) (row := none) ab3_)); have n1_ := Aside0.mk (IsS61.below ab4_ hb); have n2_ := Aside0.mk (KeepBut.trans ab3_ (KeepBut.of_below hb g none) (.inl rfl)); have n3_ := Aside0.mk (below_step ab5_ hb); clear HI0; clear HK; clear HB; clear HO473; clear HO476; clear HO479; have HO483 := n0_; have HI0 := n1_; have HK := n2_; have HB := n3_; clear n0_ n1_ n2_ n3_; clear hb ho56))
                  go_ret
                  exact ⟨_, ab8_, by (with_reducible repeat (first | apply Kd.N_alloc | apply Kd.N_drewN | apply Kd.N_drew)); exact Kd.N_mono HO483.out (fun _ hk => hk.1), ab4_, ab5_, ab3_⟩
                · replace c49 := Bool.eq_false_iff.mpr c49
                  subst c49
                  have H1 : (if t402 = 7 then (some ((([(⟨6, 0, 0, (⟨0, 0, ([] : List (S34))⟩ : S34), ([] : List (S36)), ([] : List (S36))⟩ : S36)] : List (S36))), t403)) else ((spec_l6Rd_pick.f kj45 s0_0 t403 3).bind fun bt487 => ((spec_l91Expr.f kj45 s0_0 bt487.2 (wrap64 (1 + bt487.1))).bind fun bt489 => (some ((([(⟨7, 0, 0, (⟨bt489.1, bt489.2.1, bt489.2.2.1⟩ : S34), ([] : List (S36)), ([] : List (S36))⟩ : S36)] : List (S36))), bt489.2.2.2))))) = some (r1, r2) := by rw [if_neg (show ¬ (false = true) by decide)] at H; exact H
                  clear H
                  have H := H1
                  clear H1
                  by_cases c57 : t402 = 7
                  · rw [if_pos c57] at H
                    have c57b0 : (t402 == 7) = true := beq_iff_eq.mpr c57
                    have c57b1 : (t402 != 7) = false := bne_eq_false_iff_eq.mpr c57
                    clear c57
                    obtain ⟨y484, hy484⟩ : ∃ y_ : List (S36), y_ = (([(⟨6, 0, 0, (⟨0, 0, ([] : List (S34))⟩ : S34), ([] : List (S36)), ([] : List (S36))⟩ : S36)] : List (S36))) := ⟨_, rfl⟩
                    replace H : (some (y484, t403)) = some (r1, r2) := by first | (rw [hy484]; with_reducible exact H) | (have H2_ := (Option.bind_some _ _).symm.trans H; rw [hy484]; with_reducible exact H2_) | (have H2_ := (Option.bind_some _ _).symm.trans H; with_reducible exact H2_) | with_reducible exact H | (rw [hy484]; exact H) | exact H
                    have Ny484 := Aside0.mk hy484
                    clear hy484
                    simp only [Option.some.injEq, Prod.mk.injEq] at H
                    obtain ⟨rfl, rfl⟩ := H
                    go_wp2_with (first | ((with_reducible refine gate_dst (N := 49) rfl ?_); refine Kd.N_lit k36 _ 36 ?hg (N' := 49) ?hd (xs := ([(⟨6, 0, 0, (⟨0, 0, ([] : List (S34))⟩ : S34), ([] : List (S36)), ([] : List (S36))⟩ : S36)] : List (S36))) (inner := [.int .i64 6, .int .i64 0, .int .i64 0, .int .i64 0, .int .i64 0, .slice none 0 0, .slice none 0 0, .slice none 0 0]) (ok := (fun k_ => (w.heap.size ≤ k_) ∧ k_ ≠ g)) (okp := (fun k_ => (w.heap.size ≤ k_) ∧ k_ ≠ g)) ?hr ?hp (fun _ hk => hk) ((show ∀ k_, wc.heap.size ≤ k_ → (fun k_ => (w.heap.size ≤ k_) ∧ k_ ≠ g) k_ from fun k_ hk => ⟨(Nat.le_trans (keep_size (w := w) (g := g) (row := none) ab3_) hk), IsS61.fresh ab4_ k_ hk⟩) _ (Nat.le_refl _)) (Below.refl _ _) (Nat.le_refl _) (by simp) ?_; (case hd => rfl); (case hg => rfl); (case hr => first | (go_simp; done) | (go_simp; rfl)); (case hp => exact (Reps.c8 (show Kd.FK k36 _ _ (⟨6, 0, 0, (⟨0, 0, ([] : List (S34))⟩ : S34), ([] : List (S36)), ([] : List (S36))⟩ : S36) [.int .i64 6, .int .i64 0, .int .i64 0, .int .i64 0, .int .i64 0, .slice none 0 0, .slice none 0 0, .slice none 0 0] from (k36_mkF _ _ (⟨6, 0, 0, (⟨0, 0, ([] : List (S34))⟩ : S34), ([] : List (S36)), ([] : List (S36))⟩ : S36) (Nat.le_refl _) (Kd.F_nil _ _ _) (Nat.le_refl _) (Kd.F_nil _ _ _) (Nat.le_refl _) (Kd.F_nil _ _ _))) (Reps.none _ _))); intro v485 w58 ho59 hb hg_ hnew_; clear hg_ hnew_; (first | rw [← Ny484.out] at ho59 | (simp only [Int.reduceToNat] at ho59; rw [← Ny484.out] at ho59)); have n0_ := Aside0.mk (Kd.N_lower ho59 (keep_size (w := w) (g := g) (row := none) ab3_)); have n1_ := Aside0.mk (IsS61.below ab4_ hb); have n2_ := Aside0.mk (KeepBut.trans ab3_ (KeepBut.of_below hb g none) (.inl rfl)); have n3_ := Aside0.mk (below_step ab5_ hb); clear HI0; clear HK; clear HB; have HO486 := n0_; have HI0 := n1_; have HK := n2_; have HB := n3_; clear n0_ n1_ n2_ n3_; clear hb ho59))
                    go_ret
                    exact ⟨_, ab8_, by (with_reducible repeat (first | apply Kd.N_alloc | apply Kd.N_drewN | apply Kd.N_drew)); exact Kd.N_mono HO486.out (fun _ hk => hk.1), ab4_, ab5_, ab3_⟩
                  · rw [if_neg c57] at H
                    have c57b0 : (t402 == 7) = false := beq_eq_false_iff_ne.mpr c57
                    have c57b1 : (t402 != 7) = true := bne_iff_ne.mpr c57
                    replace H := Option.bind_eq_some_iff.mp H
                    obtain ⟨⟨t487, t488⟩, A600, H⟩ := H
                    replace H : ((spec_l91Expr.f kj45 s0_0 t488 (wrap64 (1 + t487))).bind fun bt489 => (some ((([(⟨7, 0, 0, (⟨bt489.1, bt489.2.1, bt489.2.2.1⟩ : S34), ([] : List (S36)), ([] : List (S36))⟩ : S36)] : List (S36))), bt489.2.2.2))) = some (r1, r2) := H
                    have A60 := Aside0.mk A600
                    clear A600
                    replace H := Option.bind_eq_some_iff.mp H
                    obtain ⟨⟨t489, t490, t491, t494⟩, A610, H⟩ := H
                    replace H : (some ((([(⟨7, 0, 0, (⟨t489, t490, t491⟩ : S34), ([] : List (S36)), ([] : List (S36))⟩ : S36)] : List (S36))), t494)) = some (r1, r2) := H
                    have A61 := Aside0.mk A610
                    clear A610
                    obtain ⟨y495, hy495⟩ : ∃ y_ : List (S36), y_ = (([(⟨7, 0, 0, (⟨t489, t490, t491⟩ : S34), ([] : List (S36)), ([] : List (S36))⟩ : S36)] : List (S36))) := ⟨_, rfl⟩
                    replace H : (some (y495, t494)) = some (r1, r2) := by first | (rw [hy495]; with_reducible exact H) | (have H2_ := (Option.bind_some _ _).symm.trans H; rw [hy495]; with_reducible exact H2_) | (have H2_ := (Option.bind_some _ _).symm.trans H; with_reducible exact H2_) | with_reducible exact H | (rw [hy495]; exact H) | exact H
                    have Ny495 := Aside0.mk hy495
                    clear hy495
                    simp only [Option.some.injEq, Prod.mk.injEq] at H
                    obtain ⟨rfl, rfl⟩ := H
                    go_wp2_with (first | ((with_reducible refine gate_callee (f := 30) rfl ?_); refine goesL_ (some 52) rfl rfl Try.func30 (by kernel_rfl) rfl #[.pointer (some ⟨g, 0, none⟩), .int .i64 3] rfl ab2_ ?_; (with_reducible refine (spec_l6Rd_pick.calls kj45 g s0_0 t403 3 t487 t488 w0 _ ?side1 ?side2 A60.out).mono ?_); (case side1 => repeat (first | (with_reducible first | exact HI0.out | apply IsS61.alloc | apply IsS61.drewN | apply IsS61.drew | apply IsS61.set_1) | exact HI0.out)); (case side2 => repeat (first | (with_reducible first | exact HB.out | apply below_alloc | apply pw_below_drewN | apply below_drew1 | refine below_set ?_ (IsS61.ge HI0.out)) | exact HB.out)); rintro e w62 ⟨rfl, hi, hb, hk⟩; refine ⟨_, rfl, ?_⟩; have n0_ := Aside0.mk (KeepBut.trans ab3_ hk (.inl rfl)); have n1_ := Aside0.mk (hb); have n2_ := Aside0.mk (hi); clear HK; clear HB; clear HI0; have HK := n0_; have HB := n1_; have HI0 := n2_; clear n0_ n1_ n2_; (try clear hb); (try clear hb2); (try clear hk); (try clear hi)) | ((with_reducible refine gate_callee (f := 51) rfl ?_); refine goesL_ (some 54) rfl rfl Try.func51 (by kernel_rfl) rfl #[.pointer (some ⟨g, 0, none⟩), .int .i64 (wrap64 (1 + t487))] rfl ab2_ ?_; (with_reducible refine (spec_l91Expr.calls kj45 g s0_0 t488 (wrap64 (1 + t487)) t489 t490 t491 t494 w0 _ ?side1 ?side2 A61.out).mono ?_); (case side1 => repeat (first | (with_reducible first | exact HI0.out | apply IsS61.alloc | apply IsS61.drewN | apply IsS61.drew | apply IsS61.set_1) | exact HI0.out)); (case side2 => repeat (first | (with_reducible first | exact HB.out | apply below_alloc | apply pw_below_drewN | apply below_drew1 | refine below_set ?_ (IsS61.ge HI0.out)) | exact HB.out)); rintro e w63 ⟨v492, rfl, ho0, hi, hb, hk⟩; refine ⟨_, rfl, ?_⟩; have n0_ := Aside0.mk (Kd.N_lower (Kd.N_mono (ok' := fun k_ => (w.heap.size ≤ k_) ∧ k_ ≠ g) ho0 (fun k_ hk_ => ⟨(Nat.le_trans (keep_size (w := w) (g := g) (row := none) ab3_) hk_), (IsS61.fresh ab4_ k_ hk_)⟩)) (keep_size (w := w) (g := g) (row := none) ab3_)); have n1_ := Aside0.mk (KeepBut.trans ab3_ hk (.inl rfl)); have n2_ := Aside0.mk (hb); have n3_ := Aside0.mk (hi); clear HK; clear HB; clear HI0; have HO493 := n0_; have HK := n1_; have HB := n2_; have HI0 := n3_; clear n0_ n1_ n2_ n3_; (try clear hb); (try clear hb2); (try clear hk); (try clear hi); (try clear ho0); obtain ⟨Ao64, co64, eo64⟩ := Kd.N_slice HO493.out; subst eo64) | ((with_reducible refine gate_dst (N := 56) rfl ?_); refine Kd.N_lit k36 _ 36 ?hg (N' := 56) ?hd (xs := ([(⟨7, 0, 0, (⟨t489, t490, t491⟩ : S34), ([] : List (S36)), ([] : List (S36))⟩ : S36)] : List (S36))) (inner := [.int .i64 7, .int .i64 0, .int .i64 0, .int .i64 t489, .int .i64 t490, .slice Ao64 t491.length co64, .slice none 0 0, .slice none 0 0]) (ok := (fun k_ => (w.heap.size ≤ k_) ∧ k_ ≠ g)) (okp := (fun k_ => (w.heap.size ≤ k_) ∧ k_ ≠ g)) ?hr ?hp (fun _ hk => hk) ((show ∀ k_, w63.heap.size ≤ k_ → (fun k_ => (w.heap.size ≤ k_) ∧ k_ ≠ g) k_ from fun k_ hk => ⟨(Nat.le_trans (keep_size (w := w) (g := g) (row := none) ab3_) hk), IsS61.fresh ab4_ k_ hk⟩) _ (Nat.le_refl _)) (Below.refl _ _) (Nat.le_refl _) (by simp) ?_; (case hd => rfl); (case hg => rfl); (case hr => first | (go_simp; done) | (go_simp; rfl)); (case hp => exact (Reps.c8 (show Kd.FK k36 _ _ (⟨7, 0, 0, (⟨t489, t490, t491⟩ : S34), ([] : List (S36)), ([] : List (S36))⟩ : S36) [.int .i64 7, .int .i64 0, .int .i64 0, .int .i64 t489, .int .i64 t490, .slice Ao64 t491.length co64, .slice none 0 0, .slice none 0 0] from (k36_mkF _ _ (⟨7, 0, 0, (⟨t489, t490, t491⟩ : S34), ([] : List (S36)), ([] : List (S36))⟩ : S36) (Kd.N_reads' (Kd.N_mono (ok' := (fun k_ => (w.heap.size ≤ k_) ∧ k_ ≠ g)) (HO493.out) (fun k_ hk => ⟨hk.1, hk.2⟩))).2.1 (Kd.N_F (Kd.N_mono (ok' := (fun k_ => (w.heap.size ≤ k_) ∧ k_ ≠ g)) (HO493.out) (fun k_ hk => ⟨hk.1, hk.2⟩))) (Nat.le_refl _) (Kd.F_nil _ _ _) (Nat.le_refl _) (Kd.F_nil _ _ _))) (Reps.none _ _))); intro v496 w65 ho66 hb hg_ hnew_; clear hg_ hnew_; (first | rw [← Ny495.out] at ho66 | (simp only [Int.reduceToNat] at ho66; rw [← Ny495.out] at ho66)); have n0_ := Aside0.mk (Kd.N_lower ho66 (keep_size (w := w) (g := g) (row := none) ab3_)); have n1_ := Aside0.mk (IsS61.below ab4_ hb); have n2_ := Aside0.mk (KeepBut.trans ab3_ (KeepBut.of_below hb g none) (.inl rfl)); have n3_ := Aside0.mk (below_step ab5_ hb); clear HI0; clear HK; clear HB; clear HO493; have HO497 := n0_; have HI0 := n1_; have HK := n2_; have HB := n3_; clear n0_ n1_ n2_ n3_; clear hb ho66))
                    go_ret
                    exact ⟨_, ab8_, by (with_reducible repeat (first | apply Kd.N_alloc | apply Kd.N_drewN | apply Kd.N_drew)); exact Kd.N_mono HO497.out (fun _ hk => hk.1), ab4_, ab5_, ab3_⟩

end Go.Proofs.Ytpifdlpieglhlaa.PA

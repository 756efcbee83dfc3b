/- Part 4 of the proof of FnPlain. -/
import Derived.Test.YtpcbfcaacilghaaQFnPlain2
set_option maxHeartbeats 8000000
set_option maxRecDepth 100000
namespace Go.Proofs.Ytpcbfcaacilghaa.PA
open Go.RowKit Go.Proofs.YtpcbfcaacilghaaW.PrintWords Go.Proofs.YtpcbfcaacilghaaW.PrintLast Go.Proofs.YtpcbfcaacilghaaW.PrintMore
attribute [local go_sem] max2_int min2_int max_two min_two max_three min_three max_four min_four
set_option linter.unusedVariables false
set_option linter.unusedSimpArgs false
theorem spec_l92Stmts.mono_l : ∀ k, (∀ y0 y1 y2, LeO (spec_l92Stmts.l0 k y0 y1 y2) (spec_l92Stmts.l0 (k + 1) y0 y1 y2))
 | 0 => fun _ _ _ r h => by simp [spec_l92Stmts.l0] at h
 | k + 1 => by
  have ih0 := spec_l92Stmts.mono_l k
  ·intro y0 y1 y2
   unfold spec_l92Stmts.l0
   repeat' first
   | (with_reducible exact ih0 _ _ _)
   | (with_reducible exact spec_l11Count.mono _ _)
   | (with_reducible exact spec_l6Rd_pick.mono _ _ _ _)
   | (with_reducible exact spec_l92Block.mono _ _ _ _ _ _ _)
   | (with_reducible exact LeO.refl _)
   | (with_reducible exact LeO.none _)
   | (with_reducible refine LeO.ite ?_ ?_)
   | (with_reducible refine LeO.bind ?_ (fun _ => ?_))
theorem spec_l92Stmts.mono : ∀ a0 a1 a2 k, LeO (spec_l92Stmts.f k a0 a1 a2) (spec_l92Stmts.f (k + 1) a0 a1 a2) := by
 intro a0 a1 a2 k
 have ih0 := spec_l92Stmts.mono_l k
 unfold spec_l92Stmts.f
 repeat' first
   | (with_reducible exact ih0 _ _ _)
   | (with_reducible exact spec_l11Count.mono _ _)
   | (with_reducible exact spec_l6Rd_pick.mono _ _ _ _)
   | (with_reducible exact spec_l92Block.mono _ _ _ _ _ _ _)
   | (with_reducible exact LeO.refl _)
   | (with_reducible exact LeO.none _)
   | (with_reducible refine LeO.ite ?_ ?_)
   | (with_reducible refine LeO.bind ?_ (fun _ => ?_))
theorem spec_l92Stmts.calls (k : Nat) (g : Nat) (s0_0 : List Int) (s0_1 : Int) (a1 : Int) (r1 : List (S37)) (r2 : Int) (w0 w : World) (hI : IsS66 w0 w g s0_0 s0_1) (hB : Below w0.heap.size w0 w) (h : spec_l92Stmts.f k s0_0 s0_1 a1 = some (r1, r2)) :
  Calls Try.prog 61 #[.pointer (some ⟨g, 0, none⟩), .int .i64 a1] w fun e w' => ∃ v0_ : Value, e = .returned (v0_) ∧ Kd.N k37 37 w' w.heap.size (fun k_ => (w.heap.size ≤ k_)) v0_ r1 ∧ IsS66 w0 w' g s0_0 r2 ∧ Below w0.heap.size w0 w' ∧ KeepBut w w' g none := by
 have HI0 := am hI
 have HK := am (KeepBut.refl w g none)
 have HL := am hB.size
 clear hI
 have HW0 := am hB.size
 have HB := am hB
 clear hB
 have H : ((spec_l6Rd_pick.f k s0_0 s0_1 6).bind fun bt418 => ((spec_l92Block.f k s0_0 bt418.2 a1 3 (wrap64 (1 + bt418.1)) true).bind fun bt420 => (spec_l92Stmts.l0 k bt420.1 s0_0 bt420.2))) = some (r1, r2) := h
 clear h
 obtain ⟨⟨t418, t419⟩, A30, H⟩ := bsm H
 (try dsimp only at H)
 have A3 := am A30
 clear A30
 obtain ⟨⟨t420, t423⟩, A40, H⟩ := bsm H
 (try dsimp only at H)
 have A4 := am A40
 clear A40
 have H' := am H
 clear H
 go_enter Try.func61, Try.ntmps61
 go_wp2_with (first | ((with_reducible refine gate_callee (f := 50) rfl ?_); refine goesL_ (some 9) rfl rfl Try.func50 (by kernel_rfl) rfl #[.pointer (some ⟨g, 0, none⟩), .int .i64 6] rfl ab1_ ?_; (with_reducible refine (spec_l6Rd_pick.calls k g s0_0 s0_1 6 t418 t419 w0 _ ?side1 ?side2 A3.out).mono ?_); (case side1 => exact ab4_); (case side2 => exact ab5_); rintro e w5 ⟨rfl, hi, hb, hk⟩; refine ⟨_, rfl, ?_⟩; have n0_ := am (KeepBut.trans ab3_ hk (.inl rfl)); have n1_ := am (hb); have n2_ := am (hi); clear HK HB HI0; have HK := n0_; have HB := n1_; have HI0 := n2_; clear n0_ n1_ n2_; (try clear hb); (try clear hb2); (try clear hk); (try clear hi)) | ((with_reducible refine gate_callee (f := 70) rfl ?_); refine goesL_ (some 11) rfl rfl Try.func70 (by kernel_rfl) rfl #[.pointer (some ⟨g, 0, none⟩), .int .i64 a1, .int .i64 3, .int .i64 (wrap64 (1 + t418)), .bool true] rfl ab1_ ?_; (with_reducible refine (spec_l92Block.calls k g s0_0 t419 a1 3 (wrap64 (1 + t418)) true t420 t423 w0 _ ?side1 ?side2 A4.out).mono ?_); (case side1 => exact ab4_); (case side2 => exact ab5_); rintro e w6 ⟨v421, rfl, ho0, hi, hb, hk⟩; refine ⟨_, rfl, ?_⟩; have n0_ := am (Kd.N_lower (Kd.N_mono (ok' := fun k_ => (w.heap.size ≤ k_) ∧ k_ ≠ g) ho0 (fun k_ hk_ => ⟨(Nat.le_trans (keep_size (w := w) (g := g) (row := none) ab3_) hk_), (IsS66.fresh ab4_ k_ hk_)⟩)) (keep_size (w := w) (g := g) (row := none) ab3_)); have n1_ := am (KeepBut.trans ab3_ hk (.inl rfl)); have n2_ := am (hb); have n3_ := am (hi); clear HK HB HI0; have HO422 := n0_; have HK := n1_; have HB := n2_; have HI0 := n3_; clear n0_ n1_ n2_ n3_; (try clear hb); (try clear hb2); (try clear hk); (try clear hi); (try clear ho0)))
 go_loopg [5] k (fun kq v5 w' => ∃ (x5_1 : List (S37)), Aside0 (spec_l92Stmts.l0 kq x5_1 s0_0 t423 = some (r1, r2)) ∧ Aside0 (kq ≤ k) ∧ Aside0 (Kd.N k37 37 w' w.heap.size (fun k_ => (w.heap.size ≤ k_) ∧ k_ ≠ g) v5 x5_1) ∧ Aside0 (IsS66 w0 w' g s0_0 t423) ∧ Aside0 (KeepBut w w' g none) ∧ Aside0 (Below w0.heap.size w0 w'))
 case atStart => exact ⟨(t420), H', ⟨Nat.le_refl _⟩, ⟨by (with_reducible repeat (first | apply Kd.N_alloc | apply Kd.N_drewN | apply Kd.N_drew)); exact HO422.out⟩, ⟨ab4_⟩, ⟨ab3_⟩, ⟨ab5_⟩⟩
 case round =>
  clear H'
  obtain ⟨x5_1, HA, HK1, HO_5, HI0, HK, HB⟩ := hrel
  cases gk with
  | zero => exact absurd HA.out (by simp [spec_l92Stmts.l0])
  | succ k1 =>
   have H := HA.out
   clear HA
   simp only [spec_l92Stmts.l0] at H
   obtain ⟨t424, A70, H⟩ := bsm H
   (try dsimp only at H)
   have A7 := am A70
   clear A70
   by_cases c8 : t424 > 16
   ·rw [if_pos c8] at H
    have c8b0 : decide (16 < t424) = true := decide_eq_true c8
    clear c8
    obtain ⟨ji9, hji9⟩ : ∃ j_ : Int, (wrap64 ((x5_1.length : Int) - 1)) = j_ := ⟨_, rfl⟩
    replace H : (if 0 ≤ (ji9) then (if (ji9) ≤ (x5_1.length : Int) then (spec_l92Stmts.l0 k1 (x5_1.take ((ji9) : Int).toNat) s0_0 t423) else (none)) else (none)) = some (r1, r2) := by first | (rw [hji9] at H; exact H) | (simp only [hji9] at H ⊢; exact H)
    (try rw [hji9] at A7)
    have hji9w : (IntKind.i64.wrap ((x5_1.length : Int) - 1)) = ji9 := (i64_w _).trans hji9
    by_cases c10 : 0 ≤ (ji9)
    ·rw [if_pos c10] at H
     have c10b0 := eq_true c10
     have c10b1 : decide (0 ≤ (ji9)) = true := decide_eq_true c10
     clear c10
     by_cases c11 : (ji9) ≤ (x5_1.length : Int)
     ·rw [if_pos c11] at H
      have c11b0 := eq_true c11
      have c11b1 : decide ((ji9) ≤ (x5_1.length : Int)) = true := decide_eq_true c11
      clear c11
      obtain ⟨y425, hy425⟩ : ∃ y_ : List (S37), y_ = (x5_1.take ((ji9) : Int).toNat) := ⟨_, rfl⟩
      replace H : (spec_l92Stmts.l0 k1 y425 s0_0 t423) = some (r1, r2) := by first | (rw [hy425]; with_reducible exact H) | (have H2_ := (Option.bind_some _ _).symm.trans H; rw [hy425]; with_reducible exact H2_) | (have H2_ := (Option.bind_some _ _).symm.trans H; with_reducible exact H2_) | with_reducible exact H | (rw [hy425]; exact H) | exact H
      have Ny425 := am hy425
      clear hy425
      have H' := am H
      clear H
      obtain ⟨Ao12, co12, eo12⟩ := Kd.N_slice HO_5.out
      subst eo12
      go_wp2_with (first | ((with_reducible refine gate_callee (f := 38) rfl ?_); refine goesL_ (some 13) rfl rfl Try.func38 (by kernel_rfl) rfl #[.slice Ao12 x5_1.length co12] rfl ab1_ ?_; (with_reducible refine (spec_l11Count.calls k1 _ _ x5_1 t424 _ ?side1 ?side2 A7.out).mono ?_); (case side1 => repeat (first | exact (Kd.N_reads' HO_5.out).2.2 | (with_reducible refine Kd.C_alloc ?_ _) | (with_reducible refine Kd.C_drewN ?_ _) | (with_reducible refine Kd.C_drew ?_))); (case side2 => exact (Kd.N_reads' HO_5.out).2.1); rintro e w13 ⟨rfl, hb⟩; refine ⟨_, rfl, ?_⟩; have n0_ := am (Kd.N_below (aN_ HO_5.out) hb); have n1_ := am (IsS66.below ab4_ hb); have n2_ := am (KeepBut.trans ab3_ (KeepBut.of_below hb g none) (.inl rfl)); have n3_ := am (below_step ab5_ hb); clear HO_5 HI0 HK HB; have HO_5 := n0_; have HI0 := n1_; have HK := n2_; have HB := n3_; clear n0_ n1_ n2_ n3_; (try clear hb); (try clear hb2); (try clear hk); (try clear hi); have q14 : ((ji9) : Int) ≤ ((x5_1.length : Int) : Int) := of_decide_eq_true (by first | (with_reducible assumption) | assumption); obtain ⟨i014, hi014, _, hsz14, _⟩ := info_parts info37; have hcut14 := cut_to (P := Try.prog) 31 37 .i64 Try.underlying31 hi014 Ao12 x5_1.length co12 (ji9) (of_decide_eq_true (by first | (with_reducible assumption) | assumption)) q14 (Kd.N_reads' HO_5.out).2.1; have hr14 := Kd.N_take (m := ((ji9) : Int).toNat) HO_5.out (by omega); have hy14 : y425.length = ((ji9) : Int).toNat := (by rw [Ny425.out, List.length_take]; omega); rw [← Ny425.out] at hr14; rw [← hy14] at hr14 hcut14; clear hy14 hi014 hsz14 HO_5; have HO427 := am hr14; clear hr14; replace q14 := eq_true q14))
      go_roundg k1
      case measure => have := HK1.out; omega
      case rel => exact ⟨(y425), H', ⟨by have := HK1.out; omega⟩, ⟨by (with_reducible repeat (first | apply Kd.N_alloc | apply Kd.N_drewN | apply Kd.N_drew)); exact HO427.out⟩, ⟨ab4_⟩, ⟨ab3_⟩, ⟨ab5_⟩⟩
     rw [if_neg c11] at H
     exact absurd H (by simp)
    rw [if_neg c10] at H
    exact absurd H (by simp)
   rw [if_neg c8] at H
   have c8b0 : decide (16 < t424) = false := decide_eq_false c8
   clear c8
   simp only [Option.some.injEq, Prod.mk.injEq] at H
   obtain ⟨rfl, rfl⟩ := H
   obtain ⟨Ao15, co15, eo15⟩ := Kd.N_slice HO_5.out
   subst eo15
   go_wp2_with (first | ((with_reducible refine gate_callee (f := 38) rfl ?_); refine goesL_ (some 13) rfl rfl Try.func38 (by kernel_rfl) rfl #[.slice Ao15 x5_1.length co15] rfl ab1_ ?_; (with_reducible refine (spec_l11Count.calls k1 _ _ x5_1 t424 _ ?side1 ?side2 A7.out).mono ?_); (case side1 => repeat (first | exact (Kd.N_reads' HO_5.out).2.2 | (with_reducible refine Kd.C_alloc ?_ _) | (with_reducible refine Kd.C_drewN ?_ _) | (with_reducible refine Kd.C_drew ?_))); (case side2 => exact (Kd.N_reads' HO_5.out).2.1); rintro e w16 ⟨rfl, hb⟩; refine ⟨_, rfl, ?_⟩; have n0_ := am (Kd.N_below (aN_ HO_5.out) hb); have n1_ := am (IsS66.below ab4_ hb); have n2_ := am (KeepBut.trans ab3_ (KeepBut.of_below hb g none) (.inl rfl)); have n3_ := am (below_step ab5_ hb); clear HO_5 HI0 HK HB; have HO_5 := n0_; have HI0 := n1_; have HK := n2_; have HB := n3_; clear n0_ n1_ n2_ n3_; (try clear hb); (try clear hb2); (try clear hk); (try clear hi)))
   go_ret
   exact ⟨_, ab14_, by (with_reducible repeat (first | apply Kd.N_alloc | apply Kd.N_drewN | apply Kd.N_drew)); exact Kd.N_mono HO_5.out (fun _ hk => hk.1), ab4_, ab5_, ab3_⟩
theorem spec_l92Endless.mono : ∀ a0 a1 k, LeO (spec_l92Endless.f k a0 a1) (spec_l92Endless.f (k + 1) a0 a1) := by
 intro a0 a1 k
 unfold spec_l92Endless.f
 repeat' first
   | (with_reducible exact spec_l6Rd_pick.mono _ _ _ _)
   | (with_reducible exact spec_l92Block.mono _ _ _ _ _ _ _)
   | (with_reducible exact LeO.refl _)
   | (with_reducible exact LeO.none _)
   | (with_reducible refine LeO.ite ?_ ?_)
   | (with_reducible refine LeO.bind ?_ (fun _ => ?_))
theorem spec_l92Endless.calls (k : Nat) (g : Nat) (s0_0 : List Int) (s0_1 : Int) (r1 : Int) (r2 : Int) (r3 : Int) (r4 : Int) (r5 : Int) (r6 : List (S34)) (r7 : List (S37)) (r8 : List (S37)) (r9 : Int) (w0 w : World) (hI : IsS66 w0 w g s0_0 s0_1) (hB : Below w0.heap.size w0 w) (h : spec_l92Endless.f k s0_0 s0_1 = some (r1, r2, r3, r4, r5, r6, r7, r8, r9)) :
  Calls Try.prog 62 #[.pointer (some ⟨g, 0, none⟩)] w fun e w' => ∃ v5_ v6_ v7_ : Value, e = .returned (.agg #[.int .i64 r1, .int .i64 r2, .int .i64 r3, .int .i64 r4, .int .i64 r5, v5_, v6_, v7_]) ∧ Kd.N k34 34 w' w.heap.size (fun k_ => (w.heap.size ≤ k_) ∧ some k_ ≠ (v6_ : Value).ownBlock ∧ some k_ ≠ (v7_ : Value).ownBlock) v5_ r6 ∧ Kd.N k37 37 w' w.heap.size (fun k_ => (w.heap.size ≤ k_) ∧ some k_ ≠ (v5_ : Value).ownBlock ∧ some k_ ≠ (v7_ : Value).ownBlock) v6_ r7 ∧ Kd.N k37 37 w' w.heap.size (fun k_ => (w.heap.size ≤ k_) ∧ some k_ ≠ (v5_ : Value).ownBlock ∧ some k_ ≠ (v6_ : Value).ownBlock) v7_ r8 ∧ IsS66 w0 w' g s0_0 r9 ∧ Below w0.heap.size w0 w' ∧ KeepBut w w' g none := by
 have hu37 := Try.underlying37
 have HI0 := am hI
 have HK := am (KeepBut.refl w g none)
 have HL := am hB.size
 clear hI
 have HW0 := am hB.size
 have HB := am hB
 clear hB
 have H : ((spec_l4Leaf.f 0 1).bind fun bt429 => ((spec_l6Rd_pick.f k s0_0 s0_1 2).bind fun bt434 => ((spec_l92Block.f k s0_0 bt434.2 0 1 bt434.1 false).bind fun bt436 => (some (3, 0, 0, bt429.1, bt429.2.1, bt429.2.2, bt436.1, ([] : List (S37)), bt436.2))))) = some (r1, r2, r3, r4, r5, r6, r7, r8, r9) := h
 clear h
 obtain ⟨⟨t429, t430, t431⟩, A20, H⟩ := bsm H
 (try dsimp only at H)
 have A2 := am A20
 clear A20
 obtain ⟨⟨t434, t435⟩, A30, H⟩ := bsm H
 (try dsimp only at H)
 have A3 := am A30
 clear A30
 obtain ⟨⟨t436, t439⟩, A40, H⟩ := bsm H
 (try dsimp only at H)
 have A4 := am A40
 clear A40
 simp only [Option.some.injEq, Prod.mk.injEq] at H
 obtain ⟨rfl, rfl, rfl, rfl, rfl, rfl, rfl, rfl, rfl⟩ := H
 go_enter Try.func62, Try.ntmps62
 go_wp2_with (first | ((with_reducible refine gate_dst (N := 2) rfl ?_); refine box_event ?hg (N := 2) ?hd (cs := #[.int .i64 0, .int .i64 0, .int .i64 0, .int .i64 0, .int .i64 0, .slice none 0 0, .slice none 0 0, .slice none 0 0]) (t := 37) ?hr ?_; (case hd => rfl); (case hg => rfl); (case hr => first | (go_simp; done) | (go_simp; rfl)); intro gb428 hg w5 hbox hb; have n0_ := am (IsS66.below ab4_ hb); have n1_ := am (KeepBut.trans ab3_ (KeepBut.of_below hb g none) (.inl rfl)); have n2_ := am (below_step ab5_ hb); have n3_ := am (hbox); have n4_ := am ((by rw [hg]; exact (keep_size (w := w) (g := g) (row := none) ab3_) : w.heap.size ≤ gb428)); have n5_ := am ((Nat.le_trans HW0.out (by rw [hg]; exact (keep_size (w := w) (g := g) (row := none) ab3_) : w.heap.size ≤ gb428) : w0.heap.size ≤ gb428)); have n6_ := am ((by rw [hg]; exact Nat.ne_of_lt (IsS66.lt (show IsS66 w0 _ g s0_0 s0_1 from by repeat (first | (with_reducible first | exact HI0.out | apply IsS66.alloc | apply IsS66.drewN | apply IsS66.drew | apply IsS66.set_1) | exact HI0.out))) : g ≠ gb428)); have n7_ := am ((by rw [hg]; exact Nat.ne_of_gt (IsS66.lt (show IsS66 w0 _ g s0_0 s0_1 from by repeat (first | (with_reducible first | exact HI0.out | apply IsS66.alloc | apply IsS66.drewN | apply IsS66.drew | apply IsS66.set_1) | exact HI0.out))) : gb428 ≠ g)); clear HI0 HK HB; have HI0 := n0_; have HK := n1_; have HB := n2_; have BK428 := n3_; have GW428 := n4_; have GE428 := n5_; have NB0_428 := n6_; have NB428_0 := n7_; clear n0_ n1_ n2_ n3_ n4_ n5_ n6_ n7_ hb hbox hg) | ((with_reducible refine gate_callee (f := 63) rfl ?_); refine goesL_ (some 3) rfl rfl Try.func63 (by kernel_rfl) rfl #[.int .i64 0, .int .i64 1] rfl ab1_ ?_; (with_reducible refine (spec_l4Leaf.calls 0 1 t429 t430 t431 _ A2.out).mono ?_); rintro e w6 ⟨v432, rfl, ho0, hb⟩; refine ⟨_, rfl, ?_⟩; have n0_ := am (Kd.N_lower (Kd.N_mono (ok' := fun k_ => (w.heap.size ≤ k_) ∧ k_ ≠ gb428 ∧ k_ ≠ g) (Kd.R_N (Kd.R_bound ho0)) (fun k_ hk_ => ⟨(Nat.le_trans (keep_size (w := w) (g := g) (row := none) ab38_) hk_.2.1), (Kd.freshB (g := gb428) (o := .cells #[.int .i64 0, .int .i64 0, .int .i64 0, .int .i64 0, .int .i64 0, .slice none 0 0, .slice none 0 0, .slice none 0 0] 37 (0, 0)) (aG_ BK428.out) k_ hk_.2.1), (IsS66.fresh ab62_ k_ hk_.2.1)⟩)) (keep_size (w := w) (g := g) (row := none) ab38_)); have n1_ := am (IsS66.below ab62_ hb); have n2_ := am (blk_below (g := gb428) (o := .cells #[.int .i64 0, .int .i64 0, .int .i64 0, .int .i64 0, .int .i64 0, .slice none 0 0, .slice none 0 0, .slice none 0 0] 37 (0, 0)) (aG_ BK428.out) hb); have n3_ := am (KeepBut.trans ab38_ (KeepBut.of_below hb g none) (.inl rfl)); have n4_ := am (below_step ab81_ hb); clear HI0 BK428 HK HB; have HO433 := n0_; have HI0 := n1_; have BK428 := n2_; have HK := n3_; have HB := n4_; clear n0_ n1_ n2_ n3_ n4_; (try clear hb); (try clear hb2); (try clear hk); (try clear hi); (try clear ho0)) | ((with_reducible refine gate_callee (f := 50) rfl ?_); refine goesL_ (some 6) rfl rfl Try.func50 (by kernel_rfl) rfl #[.pointer (some ⟨g, 0, none⟩), .int .i64 2] rfl ab1_ ?_; (with_reducible refine (spec_l6Rd_pick.calls k g s0_0 s0_1 2 t434 t435 w0 _ ?side1 ?side2 A3.out).mono ?_); (case side1 => exact ab62_); (case side2 => exact ab81_); rintro e w7 ⟨rfl, hi, hb, hk⟩; refine ⟨_, rfl, ?_⟩; have n0_ := am (KeepBut.blk hk (g' := gb428) (o := .cells #[.int .i64 0, .int .i64 0, .int .i64 0, .int .i64 0, .int .i64 0, .slice none 0 0, .slice none 0 0, .slice none 0 0] 37 (0, 0)) (aG_ BK428.out) NB428_0.out (by simp)); have n1_ := am (Kd.N_mono (Kd.N_keep (Kd.N_mono (ok := fun k_ => (((w.heap.size ≤ k_)) ∧ (k_ ≠ gb428 ∧ k_ ≠ g))) (aN_ HO433.out) (fun k_ hk_ => (⟨hk_, hk_.2.2⟩ : _ ∧ k_ ≠ g))) hk (fun _ h => h.2)) (fun _ h => h.1)); have n2_ := am (KeepBut.trans ab38_ hk (.inl rfl)); have n3_ := am (hb); have n4_ := am (hi); clear BK428 HO433 HK HB HI0; have BK428 := n0_; have HO433 := n1_; have HK := n2_; have HB := n3_; have HI0 := n4_; clear n0_ n1_ n2_ n3_ n4_; (try clear hb); (try clear hb2); (try clear hk); (try clear hi)) | ((with_reducible refine gate_callee (f := 70) rfl ?_); refine goesL_ (some 7) rfl rfl Try.func70 (by kernel_rfl) rfl #[.pointer (some ⟨g, 0, none⟩), .int .i64 0, .int .i64 1, .int .i64 t434, .bool false] rfl ab1_ ?_; (with_reducible refine (spec_l92Block.calls k g s0_0 t435 0 1 t434 false t436 t439 w0 _ ?side1 ?side2 A4.out).mono ?_); (case side1 => exact ab62_); (case side2 => exact ab81_); rintro e w8 ⟨v437, rfl, ho0, hi, hb, hk⟩; refine ⟨_, rfl, ?_⟩; have n0_ := am (KeepBut.blk hk (g' := gb428) (o := .cells #[.int .i64 0, .int .i64 0, .int .i64 0, .int .i64 0, .int .i64 0, .slice none 0 0, .slice none 0 0, .slice none 0 0] 37 (0, 0)) (aG_ BK428.out) NB428_0.out (by simp)); have n1_ := am (Kd.N_mono (Kd.N_told (Kd.N_oldK (Kd.N_mono (ok := fun k_ => (((w.heap.size ≤ k_)) ∧ (k_ ≠ gb428 ∧ k_ ≠ g))) (aN_ HO433.out) (fun k_ hk_ => (⟨hk_, hk_.2.2⟩ : _ ∧ k_ ≠ g))) hk) (by first | exact Kd.N_base ho0 | exact Kd.N_base (Kd.R_N ho0))) (fun _ h_ => h_.1)); have n2_ := am (Kd.N_lower (Kd.N_mono (ok' := fun k_ => (w.heap.size ≤ k_) ∧ some k_ ≠ (v432 : Value).ownBlock ∧ k_ ≠ gb428 ∧ k_ ≠ g) ho0 (fun k_ hk_ => ⟨(Nat.le_trans (keep_size (w := w) (g := g) (row := none) ab38_) hk_), (Kd.fresh' (Kd.N_lt (aN_ HO433.out)) k_ hk_), (Kd.freshB (g := gb428) (o := .cells #[.int .i64 0, .int .i64 0, .int .i64 0, .int .i64 0, .int .i64 0, .slice none 0 0, .slice none 0 0, .slice none 0 0] 37 (0, 0)) (aG_ BK428.out) k_ hk_), (IsS66.fresh ab62_ k_ hk_)⟩)) (keep_size (w := w) (g := g) (row := none) ab38_)); have n3_ := am (KeepBut.trans ab38_ hk (.inl rfl)); have n4_ := am (hb); have n5_ := am (hi); clear BK428 HO433 HK HB HI0; have BK428 := n0_; have HO433 := n1_; have HO438 := n2_; have HK := n3_; have HB := n4_; have HI0 := n5_; clear n0_ n1_ n2_ n3_ n4_ n5_; (try clear hb); (try clear hb2); (try clear hk); (try clear hi); (try clear ho0); obtain ⟨Ao9, co9, eo9⟩ := Kd.N_slice HO438.out; subst eo9; obtain ⟨Ao10, co10, eo10⟩ := Kd.N_slice HO433.out; subst eo10; have hnb11 := NB428_0.out; have hnc11 := NB0_428.out; obtain ⟨hcz12_0, hcz12_1, hcz12_2, hcz12_3, hcz12_4, hcz12_5, hcz12_6, hcz12_7, hfz12_0, hfz12_1, hfz12_2, hfz12_3, hfz12_4, hfz12_5, hfz12_6, hfz12_7⟩ := bcf8_ BK428.out))
 refine bodyPost_ret (results_cell_row rfl _ _ gb428 37 #[.int .i64 3, .int .i64 0, .int .i64 0, .int .i64 t429, .int .i64 t430, .slice Ao10 t431.length co10, .slice Ao9 t436.length co9, .slice none 0 0] (0, 0) _ rfl (by (with_reducible repeat (first | refine blk_drewN ?_ _ | refine blk_drew ?_ | refine blk_alloc ?_ _)); refine blk_put (cs := #[.int .i64 3, .int .i64 0, .int .i64 0, .int .i64 t429, .int .i64 t430, .slice Ao10 t431.length co10, .slice Ao9 t436.length co9, .slice none 0 0]) ?_ 7 _ rfl; (with_reducible repeat (first | refine blk_drewN ?_ _ | refine blk_drew ?_ | refine blk_alloc ?_ _)); refine blk_put (cs := #[.int .i64 3, .int .i64 0, .int .i64 0, .int .i64 t429, .int .i64 t430, .slice Ao10 t431.length co10, .slice none 0 0, .slice none 0 0]) ?_ 6 _ rfl; (with_reducible repeat (first | refine blk_drewN ?_ _ | refine blk_drew ?_ | refine blk_alloc ?_ _)); refine blk_put (cs := #[.int .i64 3, .int .i64 0, .int .i64 0, .int .i64 t429, .int .i64 t430, .slice none 0 0, .slice none 0 0, .slice none 0 0]) ?_ 5 _ rfl; (with_reducible repeat (first | refine blk_drewN ?_ _ | refine blk_drew ?_ | refine blk_alloc ?_ _)); refine blk_put (cs := #[.int .i64 3, .int .i64 0, .int .i64 0, .int .i64 t429, .int .i64 0, .slice none 0 0, .slice none 0 0, .slice none 0 0]) ?_ 4 _ rfl; (with_reducible repeat (first | refine blk_drewN ?_ _ | refine blk_drew ?_ | refine blk_alloc ?_ _)); refine blk_put (cs := #[.int .i64 3, .int .i64 0, .int .i64 0, .int .i64 0, .int .i64 0, .slice none 0 0, .slice none 0 0, .slice none 0 0]) ?_ 3 _ rfl; (with_reducible repeat (first | refine blk_drewN ?_ _ | refine blk_drew ?_ | refine blk_alloc ?_ _)); refine blk_put (cs := #[.int .i64 3, .int .i64 0, .int .i64 0, .int .i64 0, .int .i64 0, .slice none 0 0, .slice none 0 0, .slice none 0 0]) ?_ 2 _ rfl; (with_reducible repeat (first | refine blk_drewN ?_ _ | refine blk_drew ?_ | refine blk_alloc ?_ _)); refine blk_put (cs := #[.int .i64 3, .int .i64 0, .int .i64 0, .int .i64 0, .int .i64 0, .slice none 0 0, .slice none 0 0, .slice none 0 0]) ?_ 1 _ rfl; (with_reducible repeat (first | refine blk_drewN ?_ _ | refine blk_drew ?_ | refine blk_alloc ?_ _)); refine blk_put (cs := #[.int .i64 0, .int .i64 0, .int .i64 0, .int .i64 0, .int .i64 0, .slice none 0 0, .slice none 0 0, .slice none 0 0]) ?_ 0 _ rfl; (with_reducible repeat (first | refine blk_drewN ?_ _ | refine blk_drew ?_ | refine blk_alloc ?_ _)); exact BK428.out) Try.underlying37 rfl (by kernel_rfl)) rfl ?_
 exact ⟨_, _, _, ab14_, by (with_reducible repeat (first | apply Kd.N_alloc | apply Kd.N_drewN | apply Kd.N_drew)); exact Kd.N_mono (Kd.N_far (p := ⟨gb428, 7, none⟩) (Kd.N_far (p := ⟨gb428, 6, none⟩) (Kd.N_far (p := ⟨gb428, 5, none⟩) (Kd.N_far (p := ⟨gb428, 4, none⟩) (Kd.N_far (p := ⟨gb428, 3, none⟩) (Kd.N_far (p := ⟨gb428, 2, none⟩) (Kd.N_far (p := ⟨gb428, 1, none⟩) (Kd.N_far (p := ⟨gb428, 0, none⟩) (Kd.N_mono HO433.out (fun k_ hk => (⟨hk, hk.1.2.1⟩ : _ ∧ k_ ≠ gb428))) (fun _ hk => hk.2) (.int .i64 3)) (fun _ hk => hk.2) (.int .i64 0)) (fun _ hk => hk.2) (.int .i64 0)) (fun _ hk => hk.2) (.int .i64 t429)) (fun _ hk => hk.2) (.int .i64 t430)) (fun _ hk => hk.2) (.slice Ao10 t431.length co10)) (fun _ hk => hk.2) (.slice Ao9 t436.length co9)) (fun _ hk => hk.2) (.slice none 0 0)) (fun _ hk => ⟨hk.1.1.1, ⟨hk.1.2, (by simp [Value.ownBlock])⟩⟩), by (with_reducible repeat (first | apply Kd.N_alloc | apply Kd.N_drewN | apply Kd.N_drew)); exact Kd.N_mono (Kd.N_far (p := ⟨gb428, 7, none⟩) (Kd.N_far (p := ⟨gb428, 6, none⟩) (Kd.N_far (p := ⟨gb428, 5, none⟩) (Kd.N_far (p := ⟨gb428, 4, none⟩) (Kd.N_far (p := ⟨gb428, 3, none⟩) (Kd.N_far (p := ⟨gb428, 2, none⟩) (Kd.N_far (p := ⟨gb428, 1, none⟩) (Kd.N_far (p := ⟨gb428, 0, none⟩) (Kd.N_mono HO438.out (fun k_ hk => (⟨hk, hk.2.2.1⟩ : _ ∧ k_ ≠ gb428))) (fun _ hk => hk.2) (.int .i64 3)) (fun _ hk => hk.2) (.int .i64 0)) (fun _ hk => hk.2) (.int .i64 0)) (fun _ hk => hk.2) (.int .i64 t429)) (fun _ hk => hk.2) (.int .i64 t430)) (fun _ hk => hk.2) (.slice Ao10 t431.length co10)) (fun _ hk => hk.2) (.slice Ao9 t436.length co9)) (fun _ hk => hk.2) (.slice none 0 0)) (fun _ hk => ⟨hk.1.1, ⟨hk.1.2.1, (by simp [Value.ownBlock])⟩⟩), by first | exact Kd.R_nil _ _ _ _ _ | exact Kd.N_nil _ _ _ _ _ | exact Kd.V_nil _ _ _ _ _ | exact Kd.Q_nil _ _ _ _ _ | exact Kd.S_nil _ _ _ _ _, ab62_, ab81_, ab38_⟩
theorem spec_l92Program.mono_l : ∀ k, (∀ y0 y1 y2 y3 y4 y5, LeO (spec_l92Program.l0 k y0 y1 y2 y3 y4 y5) (spec_l92Program.l0 (k + 1) y0 y1 y2 y3 y4 y5))
 | 0 => fun _ _ _ _ _ _ r h => by simp [spec_l92Program.l0] at h
 | k + 1 => by
  have ih0 := spec_l92Program.mono_l k
  ·intro y0 y1 y2 y3 y4 y5
   unfold spec_l92Program.l0
   repeat' first
   | (with_reducible exact ih0 _ _ _ _ _ _)
   | (with_reducible exact spec_l6Rd_pick.mono _ _ _ _)
   | (with_reducible exact spec_l92Endless.mono _ _ _)
   | (with_reducible exact spec_l92Rooms.mono _ _ _)
   | (with_reducible exact spec_l92Stmts.mono _ _ _ _)
   | (with_reducible exact LeO.refl _)
   | (with_reducible exact LeO.none _)
   | (with_reducible refine LeO.ite ?_ ?_)
   | (with_reducible refine LeO.bind ?_ (fun _ => ?_))
theorem spec_l92Program.mono : ∀ a0 a1 k, LeO (spec_l92Program.f k a0 a1) (spec_l92Program.f (k + 1) a0 a1) := by
 intro a0 a1 k
 have ih0 := spec_l92Program.mono_l k
 unfold spec_l92Program.f
 repeat' first
   | (with_reducible exact ih0 _ _ _ _ _ _)
   | (with_reducible exact spec_l6Rd_pick.mono _ _ _ _)
   | (with_reducible exact spec_l92Endless.mono _ _ _)
   | (with_reducible exact spec_l92Rooms.mono _ _ _)
   | (with_reducible exact spec_l92Stmts.mono _ _ _ _)
   | (with_reducible exact LeO.refl _)
   | (with_reducible exact LeO.none _)
   | (with_reducible refine LeO.ite ?_ ?_)
   | (with_reducible refine LeO.bind ?_ (fun _ => ?_))
def spec_l92Program.T6 : Bool × List (List Nat × List Nat) := (true, [([], []), ([0], [0]), ([], []), ([], []), ([3], [3]), ([4], [4]), ([2, 5], [2, 5]), ([6], [6]), ([1, 7, 6], [1, 7]), ([0, 1, 2, 3, 4, 5, 6, 7, 8], []), ([9, 8, 8, 0, 1, 2, 3, 4, 5, 6, 7, 8], [8, 9])])
def spec_l92Program.B6 : List Nat := [0, 1, 0, 0, 8, 24, 60, 124, 255, 511, 1023]
theorem spec_l92Program.tab6 : rtab .any (opsOf Try.f49 6) = spec_l92Program.T6 := by kernel_rfl
theorem spec_l92Program.bits6 : waitsOk spec_l92Program.T6.2 spec_l92Program.B6 = true := by kernel_rfl
def TF (w : World) (base : Nat) (ok : Nat → Prop) (v : Value) (ts : List (List S37)) : Prop :=
 (∀ k, v.ownBlock = some k → ok k) ∧ ∃ (P : Nat → Prop) (rows : List (List Value)), rows.length = ts.length ∧ (Kd.raw 1).R 31 w base (fun k => some k = v.ownBlock) v rows ∧
  (∀ t c, ts[0]? = some t → rows[0]? = some c → ∃ u, c = [u] ∧ Kd.N k37 37 w base (fun k => (ok k ∧ some k ≠ v.ownBlock) ∧ P k) u t) ∧
  (∀ j t c, ts[j + 1]? = some t → rows[j + 1]? = some c → Kd.FK (Kd.slice 37 k37) w (fun k => (ok k ∧ some k ≠ v.ownBlock) ∧ ¬ P k) t c)
section
variable {w w1 W : World} {base base' g : Nat} {ok ok' : Nat → Prop} {v : Value} {ts : List (List S37)}
theorem TF_N (h : TF w base ok v ts) : Kd.N (Kd.slice 37 k37) 31 w base ok v ts := by
 obtain ⟨h0, P, rows, hl, hR, he, hf⟩ := h
 refine ⟨h0, rows, hl, hR, fun j x c hx hc => ?_⟩
 cases j with
 | zero =>
  obtain ⟨u, rfl, hn⟩ := he x c hx hc
  obtain ⟨A, cc, rfl⟩ := Kd.N_slice hn
  exact Kd.FK_mono (Kd.FK_slice_mk (Kd.N_reads' hn).2.1 (Kd.N_F hn)) (fun k hk => hk.1)
 | succ j => exact Kd.FK_mono (hf j x c hx hc) (fun k hk => hk.1)
theorem TF_step (h : TF w base ok v ts) (hm : ∀ k, ok k → k < w.heap.size → w1.heap[k]? = w.heap[k]?) : TF w1 base ok v ts := by
 obtain ⟨h0, P, rows, hl, hR, he, hf⟩ := h
 refine ⟨h0, P, rows, hl, Kd.R_step hR (fun k hk hlt => hm k (h0 k hk.symm) hlt), fun t c ht hc => ?_, fun j t c ht hc => Kd.FK_step (hf j t c ht hc) (fun k hk hlt => hm k hk.1.1 hlt)⟩
 obtain ⟨u, rfl, hn⟩ := he t c ht hc
 exact ⟨u, rfl, Kd.N_step hn (fun k hk hlt => hm k hk.1.1 hlt)⟩
theorem TF_mono (h : TF w base ok v ts) (hok : ∀ k, ok k → ok' k) : TF w base ok' v ts := by
 obtain ⟨h0, P, rows, hl, hR, he, hf⟩ := h
 refine ⟨fun k hk => hok k (h0 k hk), P, rows, hl, hR, fun t c ht hc => ?_, fun j t c ht hc => Kd.FK_mono (hf j t c ht hc) (fun k hk => ⟨⟨hok k hk.1.1, hk.1.2⟩, hk.2⟩)⟩
 obtain ⟨u, rfl, hn⟩ := he t c ht hc
 exact ⟨u, rfl, Kd.N_mono hn (fun k hk => ⟨⟨hok k hk.1.1, hk.1.2⟩, hk.2⟩)⟩
theorem TF_bound (h : TF w base ok v ts) : TF w base (fun k => ok k ∧ k < w.heap.size) v ts := by
 have hlt := Kd.N_lt (TF_N h)
 obtain ⟨h0, P, rows, hl, hR, he, hf⟩ := h
 refine ⟨fun k hk => ⟨h0 k hk, hlt k hk⟩, P, rows, hl, hR, fun t c ht hc => ?_, fun j t c ht hc => Kd.FK_mono (Kd.FK_bound (hf j t c ht hc)) (fun k hk => ⟨⟨⟨hk.1.1.1, hk.2⟩, hk.1.1.2⟩, hk.1.2⟩)⟩
 obtain ⟨u, rfl, hn⟩ := he t c ht hc
 exact ⟨u, rfl, Kd.N_mono (Kd.N_bound hn) (fun k hk => ⟨⟨⟨hk.1.1.1, hk.2⟩, hk.1.1.2⟩, hk.1.2⟩)⟩
theorem TF_below (h : TF w base ok v ts) (hb : Below w.heap.size w w1) : TF w1 base ok v ts := TF_step h (fun k _ hk => hb.block k hk)
theorem TF_alloc (h : TF w base ok v ts) (o : Obj) : TF (w.alloc o) base ok v ts := TF_below h (below_alloc (Below.refl _ _) o)
theorem TF_drew (h : TF w base ok v ts) : TF w.drew base ok v ts := TF_below h (below_drew (Below.refl _ _))
theorem TF_drewN (h : TF w base ok v ts) (m : Nat) : TF (w.drewN m) base ok v ts := TF_below h (pw_below_drewN (Below.refl _ _) m)
theorem TF_far (h : TF w base ok v ts) {p : Addr} (hok : ∀ k, ok k → k ≠ p.block) (u : Value) : TF (w.setCell p u) base ok v ts := TF_step h (fun k ho _ => Below.heap_setCell w p u k (hok k ho))
theorem TF_keep (h : TF w base ok v ts) (hk : KeepBut w w1 g none) (hok : ∀ k, ok k → k ≠ g) : TF w1 base ok v ts := TF_step h (fun k ho hlt => hk.2 k hlt (hok k ho) (by simp))
theorem TF_oldK (h : TF w base (fun k => ok k ∧ k ≠ g) v ts) (hk : KeepBut w w1 g none) : TF w1 base (fun k => ok k ∧ k < w.heap.size) v ts := TF_mono (TF_keep (TF_bound h) hk (fun _ hk => hk.1.2)) (fun _ hk => ⟨hk.1.1, hk.2⟩)
theorem TF_nil (h0 : ts = []) (h : Kd.N (Kd.slice 37 k37) 31 w base ok v ts) : TF w base ok v ts := by
 subst h0
 obtain ⟨h0, rows, hl, hR, hf⟩ := h
 exact ⟨h0, fun _ => False, rows, hl, hR, fun t c ht => by simp at ht, fun j t c ht => by simp at ht⟩
theorem TF_appended {ok0 okp : Nat → Prop} {v1 u : Value} {p : List S37} {rows : List (List Value)} {P : Nat → Prop} (h0 : ∀ k, v.ownBlock = some k → ok0 k) (hl : rows.length = ts.length)
  (he : ∀ t c, ts[0]? = some t → rows[0]? = some c → ∃ u, c = [u] ∧ Kd.N k37 37 W base (fun k => (ok0 k ∧ some k ≠ v.ownBlock) ∧ P k) u t)
  (hf : ∀ j t c, ts[j + 1]? = some t → rows[j + 1]? = some c → Kd.FK (Kd.slice 37 k37) W (fun k => (ok0 k ∧ some k ≠ v.ownBlock) ∧ ¬ P k) t c)
  (hp : Kd.N k37 37 W base okp u p) (hokp : ∀ k, okp k → ok k ∧ some k ≠ v.ownBlock) (hok0 : ∀ k, ok0 k → ok k) (hap : ∀ k, ok0 k → ¬ okp k) (hfresh : ∀ k, W.heap.size ≤ k → ok k)
  (hR : (Kd.raw 1).R 31 w1 base (fun _ => True) v1 (rows ++ [[u]])) (hg : W.grownBy w1 v.ownBlock) (hat : v1.ownBlock = v.ownBlock ∨ ∃ b, v1.ownBlock = some b ∧ W.heap.size ≤ b) : TF w1 base ok v1 (ts ++ [p]) := by
 have hne : ∀ k, some k ≠ v.ownBlock → k < W.heap.size → some k ≠ v1.ownBlock := by
  intro k hk hlt
  rcases hat with hat | ⟨b, hb, hle⟩
  ·rw [hat]; exact hk
  ·rw [hb]
   intro he
   injection he with he
   omega
 have hown : ∀ k, v1.ownBlock = some k → ok k := by
  intro k hk
  rcases hat with hat | ⟨b, hb, hle⟩
  ·exact hok0 k (h0 k (hat ▸ hk))
  ·rw [hb] at hk
   injection hk with hk
   exact hfresh k (by omega)
 have hpn : Kd.N k37 37 w1 base (fun k => (ok k ∧ some k ≠ v1.ownBlock) ∧ okp k) u p :=
  Kd.N_mono (Kd.N_step (Kd.N_bound hp) (fun k hk hlt => hg.block k hlt (hokp k hk.1).2)) (fun k hk => ⟨⟨(hokp k hk.1).1, hne k (hokp k hk.1).2 hk.2⟩, hk.1⟩)
 cases ts with
 | nil =>
  have hr0 : rows = [] := List.eq_nil_of_length_eq_zero hl
  subst hr0
  refine ⟨hown, okp, [[u]], rfl, Kd.raw_tight hR, fun t c ht hc => ?_, fun j t c ht hc => by simp at ht⟩
  simp only [List.nil_append, List.getElem?_cons_zero, Option.some.injEq] at ht hc
  subst ht
  subst hc
  exact ⟨u, rfl, hpn⟩
 | cons t0 ts =>
  refine ⟨hown, fun k => P k ∧ ok0 k, rows ++ [[u]], by rw [List.length_append, List.length_append, hl]; rfl, Kd.raw_tight hR, fun t c ht hc => ?_, fun j t c ht hc => ?_⟩
  ·rw [List.getElem?_append_left (by simp)] at ht
   rw [List.getElem?_append_left (by rw [hl]; simp)] at hc
   obtain ⟨u0, rfl, hn⟩ := he t c ht hc
   exact ⟨u0, rfl, Kd.N_mono (Kd.N_step (Kd.N_bound hn) (fun k hk hlt => hg.block k hlt hk.1.1.2)) (fun k hk => ⟨⟨hok0 k hk.1.1.1, hne k hk.1.1.2 hk.2⟩, hk.1.2, hk.1.1.1⟩)⟩
  ·rcases Nat.lt_or_ge (j + 1) (t0 :: ts).length with hlt | hge
   ·rw [List.getElem?_append_left hlt] at ht
    rw [List.getElem?_append_left (by rw [hl]; exact hlt)] at hc
    exact Kd.FK_mono (Kd.FK_step (Kd.FK_bound (hf j t c ht hc)) (fun k hk hlt => hg.block k hlt hk.1.1.2)) (fun k hk => ⟨⟨hok0 k hk.1.1.1, hne k hk.1.1.2 hk.2⟩, fun hq => hk.1.2 hq.1⟩)
   ·rw [List.getElem?_append_right hge] at ht
    rw [List.getElem?_append_right (by rw [hl]; exact hge), hl] at hc
    cases hj : j + 1 - (t0 :: ts).length with
    | succ m =>
     rw [hj] at ht
     simp at ht
    | zero =>
     rw [hj] at ht hc
     simp only [List.getElem?_cons_zero, Option.some.injEq] at ht hc
     subst ht
     subst hc
     obtain ⟨A, cc, rfl⟩ := Kd.N_slice hpn
     exact Kd.FK_mono (Kd.FK_slice_mk (Kd.N_reads' hpn).2.1 (Kd.N_F hpn)) (fun k hk => ⟨hk.1, fun hq => hap k hq.2 hk.2⟩)
theorem TF_seg {ok0 okp : Nat → Prop} {n cap : Nat} {u : Value} {p : List S37} (h : TF W base ok0 (.slice (some ⟨g, 0, none⟩) n cap) ts) (hn : 0 < ts.length) (hp : Kd.N k37 37 W base okp u p) (hokp : ∀ k, okp k → ok k ∧ k ≠ g) (hok0 : ∀ k, ok0 k → ok k) (hap : ∀ k, ok0 k → k ≠ g → ¬ okp k) :
  TF (W.setCells g ((0 : Int).toNat * 1 + 0) [u]) base ok (.slice (some ⟨g, 0, none⟩) n cap) (ts.set (0 : Int).toNat p) := by
 have hgo : some g = (Value.slice (some ⟨g, 0, none⟩) n cap).ownBlock := by simp [Value.ownBlock]
 have hN := TF_N h
 have hnn := (Kd.N_reads' hN).1
 obtain ⟨h0, P, rows, hl, hR, he, hf⟩ := h
 obtain ⟨c0, hc0⟩ : ∃ c, rows[0]? = some c := ⟨_, List.getElem?_eq_getElem (by omega)⟩
 obtain ⟨t0, ht0⟩ : ∃ t, ts[0]? = some t := ⟨_, List.getElem?_eq_getElem hn⟩
 obtain ⟨u0, rfl, hn0⟩ := he t0 c0 ht0 hc0
 obtain ⟨c, hcl, hM, hcc, hfr⟩ := Kd.R_elem (Kd.raw_any hR) [] (0 : Int) (by omega) (by omega)
 have hpo : u.oneCell' = true := by
  obtain ⟨A, cc, rfl⟩ := Kd.N_slice hp
  rfl
 obtain ⟨h2, h3⟩ := Kd.R_seg (Kd.raw_any hR) (0 : Int) (by omega) (by omega) (c := c) (seg := [u]) (j := 0) (x' := [u]) (okp := fun _ => False) hcl hcc (show 0 + [u].length ≤ 1 from Nat.le_refl _) (by
  have e : c.take 0 ++ [u] ++ c.drop (0 + [u].length) = [u] := by
   have : c.length = 1 := hcl
   simp [List.drop_eq_nil_of_le (show c.length ≤ 1 by omega)]
  rw [e]
  exact ⟨rfl, rfl, fun x hx => by rw [List.mem_singleton] at hx; rw [hx]; exact hpo⟩) (fun _ hk => hk.elim)
 have hpn : Kd.N k37 37 (W.setCells g ((0 : Int).toNat * 1 + 0) [u]) base (fun k => (ok k ∧ some k ≠ (Value.slice (some ⟨g, 0, none⟩) n cap).ownBlock) ∧ okp k) u p :=
  Kd.N_mono (Kd.N_step hp (fun k hk hlt => h3.block k hlt (fun e => (hokp k hk).2 (by injection e)))) (fun k hk => ⟨⟨(hokp k hk).1, fun e => (hokp k hk).2 (by rw [← hgo] at e; injection e)⟩, hk⟩)
 refine ⟨fun k hk => hok0 k (h0 k hk), okp, rows.set 0 [u], by rw [List.length_set, List.length_set, hl], Kd.raw_tight h2, fun t c ht hc => ?_, fun j t c ht hc => ?_⟩
 ·rw [show (0 : Int).toNat = 0 from rfl, List.getElem?_set_self hn] at ht
  rw [List.getElem?_set_self (by omega)] at hc
  injection ht with ht
  injection hc with hc
  subst ht
  subst hc
  exact ⟨u, rfl, hpn⟩
 ·rw [show (0 : Int).toNat = 0 from rfl, List.getElem?_set_ne (by omega)] at ht
  rw [List.getElem?_set_ne (by omega)] at hc
  have hne : ∀ k, some k ≠ (Value.slice (some ⟨g, 0, none⟩) n cap).ownBlock → k ≠ g := fun k hk e => hk (by rw [e]; exact hgo)
  exact Kd.FK_mono (Kd.FK_step (hf j t c ht hc) (fun k hk hlt => h3.block k hlt (fun e => hne k hk.1.2 (by injection e)))) (fun k hk => ⟨⟨hok0 k hk.1.1, hk.1.2⟩, hap k hk.1.1 (hne k hk.1.2)⟩)
end
section
variable {P : Program} {ops : Array Oper} {o : Oper} {a : Act} {Q : Exit → Act → World → Prop} {Kc : Act → World → Prop}
theorem TF_append_step {w0 W : World} (base : Nat) (hw : Region.wanted o (yielded ops a.tmps) = true) (s x : Operand) (t : TypeId) (z : Value) (bytes : Nat)
  (ho : o.op = .call { callee := .builtin .append, args := #[s, x], argTypes := #[t, t] })
  (ht : P.underlying t = some (.slice 31)) (hinfo : (P.info? 31).map (fun i => (i.zero, i.size, i.bytes)) = some (some z, 1, bytes)) (hz : z.cells.size = 1) (hb0 : 0 < bytes)
  (v u : Value) (xs : List (List S37)) (p : List S37) (ok ok0 okp : Nat → Prop) (hs : a.eval s = v) (hx : a.eval x = .slice (some ⟨W.heap.size, 0, none⟩) 1 1) (hp : Kd.N k37 37 W base okp u p) (hokp : ∀ k, okp k → ok k ∧ some k ≠ v.ownBlock) (hok0 : ∀ k, ok0 k → ok k) (hap : ∀ k, ok0 k → ¬ okp k) (hfresh : ∀ k, W.heap.size ≤ k → ok k)
  (HO : TF W base ok0 v xs) (HB : Below base w0 W) (hbase : base ≤ W.heap.size) (hl : (xs.length + 1) * bytes ≤ 140737488355328)
  (h : ∀ v1 w1, TF w1 base ok v1 (xs ++ [p]) → Below base w0 w1 → W.grownBy w1 v.ownBlock → (v1.ownBlock = v.ownBlock ∨ ∃ b, v1.ownBlock = some b ∧ W.heap.size ≤ b) → Kc (a.put o.dst v1) w1) :
  if Region.wanted o (yielded ops a.tmps) = true then Oper.wp P o a (W.alloc (.cells [u].toArray 31)) Kc Q else Kc (a.put o.dst undef) (W.alloc (.cells [u].toArray 31)) := by
 obtain ⟨h0, P, rows, hlr, hR, he, hf⟩ := HO
 have hpo : u.oneCell' = true := by
  obtain ⟨A, cc, rfl⟩ := Kd.N_slice hp
  rfl
 refine Kd.R_append_step (Kd.raw 1) base hw s x t 31 z bytes ho ht hinfo hz (by decide) hb0 v rows [u] [u] (fun _ => True) (fun _ => False) hs hx ⟨rfl, rfl, fun y hy => by rw [List.mem_singleton] at hy; rw [hy]; exact hpo⟩ (fun _ hk => hk.elim) (fun _ _ => trivial) (Kd.raw_any hR) HB hbase (by rw [hlr]; exact hl) ?_
 intro v1 w1 hr hb hg hat
 exact h v1 w1 (TF_appended h0 hlr he hf hp hokp hok0 hap hfresh hr hg hat) hb hg hat
end
theorem spec_l92Program.callsT (k : Nat) (g : Nat) (s0_0 : List Int) (s0_1 : Int) (r1 : List Int) (r2 : List (List (S37))) (r3 : Int) (w0 w : World) (hI : IsS66 w0 w g s0_0 s0_1) (hB : Below w0.heap.size w0 w) (h : spec_l92Program.f k s0_0 s0_1 = some (r1, r2, r3)) :
  Calls Try.prog 49 #[.pointer (some ⟨g, 0, none⟩)] w fun e w' => ∃ v0_ v1_ : Value, e = .returned (.agg #[v0_, v1_]) ∧ Kd.R (Kd.int .i64) 3 w' w.heap.size (fun k_ => (w.heap.size ≤ k_)) v0_ r1 ∧ TF w' w.heap.size (fun k_ => (w.heap.size ≤ k_) ∧ some k_ ≠ (v0_ : Value).ownBlock) v1_ r2 ∧ IsS66 w0 w' g s0_0 r3 ∧ Below w0.heap.size w0 w' ∧ KeepBut w w' g none := by
 have hu26 := Try.underlying26
 have HI0 := am hI
 have HK := am (KeepBut.refl w g none)
 have HL := am hB.size
 clear hI
 have HW0 := am hB.size
 have HB := am hB
 clear hB
 have H : ((spec_l92Rooms.f k s0_0 s0_1).bind fun bt441 => ((spec_l6Rd_pick.f k s0_0 bt441.2 3).bind fun bt449 => (spec_l92Program.l0 k (wrap64 (1 + bt449.1)) 0 s0_0 bt449.2 bt441.1 (([] : List (List (S37))))))) = some (r1, r2, r3) := h
 clear h
 obtain ⟨⟨t441, t444⟩, A20, H⟩ := bsm H
 (try dsimp only at H)
 have A2 := am A20
 clear A20
 obtain ⟨y445, hy445⟩ : ∃ y_ : List (List (S37)), y_ = (([] : List (List (S37)))) := ⟨_, rfl⟩
 replace H : ((spec_l6Rd_pick.f k s0_0 t444 3).bind fun bt449 => (spec_l92Program.l0 k (wrap64 (1 + bt449.1)) 0 s0_0 bt449.2 t441 y445)) = some (r1, r2, r3) := by first | (rw [hy445]; with_reducible exact H) | (have H2_ := (Option.bind_some _ _).symm.trans H; rw [hy445]; with_reducible exact H2_) | (have H2_ := (Option.bind_some _ _).symm.trans H; with_reducible exact H2_) | with_reducible exact H | (rw [hy445]; exact H) | exact H
 have Ny445 := am hy445
 clear hy445
 obtain ⟨⟨t449, t450⟩, A30, H⟩ := bsm H
 (try dsimp only at H)
 have A3 := am A30
 clear A30
 have H' := am H
 clear H
 go_enter Try.func49, Try.ntmps49
 go_wp2_with (first | ((with_reducible refine gate_dst (N := 2) rfl ?_); refine box_event ?hg (N := 2) ?hd (cs := #[.slice none 0 0, .slice none 0 0]) (t := 26) ?hr ?_; (case hd => rfl); (case hg => rfl); (case hr => first | (go_simp; done) | (go_simp; rfl)); intro gb440 hg w4 hbox hb; have n0_ := am (IsS66.below ab4_ hb); have n1_ := am (KeepBut.trans ab3_ (KeepBut.of_below hb g none) (.inl rfl)); have n2_ := am (below_step ab5_ hb); have n3_ := am (hbox); have n4_ := am ((by rw [hg]; exact (keep_size (w := w) (g := g) (row := none) ab3_) : w.heap.size ≤ gb440)); have n5_ := am ((Nat.le_trans HW0.out (by rw [hg]; exact (keep_size (w := w) (g := g) (row := none) ab3_) : w.heap.size ≤ gb440) : w0.heap.size ≤ gb440)); have n6_ := am ((by rw [hg]; exact Nat.ne_of_lt (IsS66.lt (show IsS66 w0 _ g s0_0 s0_1 from by repeat (first | (with_reducible first | exact HI0.out | apply IsS66.alloc | apply IsS66.drewN | apply IsS66.drew | apply IsS66.set_1) | exact HI0.out))) : g ≠ gb440)); have n7_ := am ((by rw [hg]; exact Nat.ne_of_gt (IsS66.lt (show IsS66 w0 _ g s0_0 s0_1 from by repeat (first | (with_reducible first | exact HI0.out | apply IsS66.alloc | apply IsS66.drewN | apply IsS66.drew | apply IsS66.set_1) | exact HI0.out))) : gb440 ≠ g)); clear HI0 HK HB; have HI0 := n0_; have HK := n1_; have HB := n2_; have BK440 := n3_; have GW440 := n4_; have GE440 := n5_; have NB0_440 := n6_; have NB440_0 := n7_; clear n0_ n1_ n2_ n3_ n4_ n5_ n6_ n7_ hb hbox hg) | ((with_reducible refine gate_callee (f := 60) rfl ?_); refine goesL_ (some 7) rfl rfl Try.func60 (by kernel_rfl) rfl #[.pointer (some ⟨g, 0, none⟩)] rfl ab1_ ?_; (with_reducible refine (spec_l92Rooms.calls k g s0_0 s0_1 t441 t444 w0 _ ?side1 ?side2 A2.out).mono ?_); (case side1 => exact ab70_); (case side2 => exact ab82_); rintro e w5 ⟨v442, rfl, ho0, hi, hb, hk⟩; refine ⟨_, rfl, ?_⟩; have n0_ := am (KeepBut.blk hk (g' := gb440) (o := .cells #[.slice none 0 0, .slice none 0 0] 26 (0, 0)) (aG_ BK440.out) NB440_0.out (by simp)); have n1_ := am (Kd.R_lower (Kd.R_newM (M := fun k_ => (w.heap.size ≤ k_)) ho0 (keep_size (w := w) (g := g) (row := none) ab37_) (fun k_ h_ => h_)) (keep_size (w := w) (g := g) (row := none) ab37_)); have n2_ := am (KeepBut.trans ab37_ hk (.inl rfl)); have n3_ := am (hb); have n4_ := am (hi); clear BK440 HK HB HI0; have BK440 := n0_; have HO443 := n1_; have HK := n2_; have HB := n3_; have HI0 := n4_; clear n0_ n1_ n2_ n3_ n4_; (try clear hb); (try clear hb2); (try clear hk); (try clear hi); (try clear ho0)) | ((with_reducible refine gate_dst (N := 8) rfl ?_); refine Kd.N_lit (Kd.slice 37 k37) _ 31 ?hg (N' := 8) ?hd (xs := ([] : List (List (S37)))) (inner := []) (ok := (fun k_ => (w.heap.size ≤ k_) ∧ some k_ ≠ (v442 : Value).ownBlock ∧ k_ ≠ gb440 ∧ k_ ≠ g)) (okp := (fun k_ => (w.heap.size ≤ k_) ∧ some k_ ≠ (v442 : Value).ownBlock ∧ k_ ≠ gb440 ∧ k_ ≠ g)) ?hr ?hp (fun _ hk => hk) ((show ∀ k_, w5.heap.size ≤ k_ → (fun k_ => (w.heap.size ≤ k_) ∧ some k_ ≠ (v442 : Value).ownBlock ∧ k_ ≠ gb440 ∧ k_ ≠ g) k_ from fun k_ hk => ⟨(Nat.le_trans (keep_size (w := w) (g := g) (row := none) ab37_) hk), Kd.fresh' (Kd.R_lt (aR_ HO443.out)) k_ hk, Kd.freshB (g := gb440) (o := .cells #[.slice none 0 0, .slice none 0 0] 26 (0, 0)) (aG_ BK440.out) k_ hk, IsS66.fresh ab70_ k_ hk⟩) _ (Nat.le_refl _)) (Below.refl _ _) (Nat.le_refl _) (by simp) ?_; (case hd => rfl); (case hg => rfl); (case hr => first | (go_simp; done) | (go_simp; rfl)); (case hp => exact (Reps.none _ _)); intro v446 w6 ho7 hb hg_ hnew_; clear hg_ hnew_; (first | rw [← Ny445.out] at ho7 | (simp only [Int.reduceToNat] at ho7; rw [← Ny445.out] at ho7)); have n0_ := am (Kd.R_below (aR_ HO443.out) hb); have n1_ := am (Kd.N_lower ho7 (keep_size (w := w) (g := g) (row := none) ab37_)); have n2_ := am (IsS66.below ab70_ hb); have n3_ := am (blk_below (g := gb440) (o := .cells #[.slice none 0 0, .slice none 0 0] 26 (0, 0)) (aG_ BK440.out) hb); have n4_ := am (KeepBut.trans ab37_ (KeepBut.of_below hb g none) (.inl rfl)); have n5_ := am (below_step ab82_ hb); clear HO443 HI0 BK440 HK HB; have HO443 := n0_; have HO447 := n1_; have HI0 := n2_; have BK440 := n3_; have HK := n4_; have HB := n5_; clear n0_ n1_ n2_ n3_ n4_ n5_ hb ho7; obtain ⟨Ao8, co8, eo8⟩ := Kd.N_slice HO447.out; subst eo8; obtain ⟨Ao9, co9, eo9⟩ := Kd.R_slice HO443.out; subst eo9) | ((with_reducible refine gate_dst (N := 3) rfl ?_); refine box_event ?hg (N := 3) ?hd (cs := #[.slice none 0 0, .slice none 0 0]) (t := 26) ?hr ?_; (case hd => rfl); (case hg => rfl); (case hr => first | (go_simp; done) | (go_simp; rfl)); intro gb448 hg w10 hbox hb; have n0_ := am (Kd.R_below (aR_ HO443.out) hb); have n1_ := am (Kd.N_below (Kd.N_elderB (aN_ HO447.out) gb448 (Nat.le_of_eq hg.symm)) hb); have n2_ := am (IsS66.below ab70_ hb); have n3_ := am (blk_below (g := gb440) (o := .cells #[.slice none 0 0, .slice none 0 0] 26 (0, 0)) (aG_ BK440.out) hb); have n4_ := am (KeepBut.trans ab37_ (KeepBut.of_below hb g none) (.inl rfl)); have n5_ := am (below_step ab82_ hb); have n6_ := am (hbox); have n7_ := am ((by rw [hg]; exact (keep_size (w := w) (g := g) (row := none) ab37_) : w.heap.size ≤ gb448)); have n8_ := am ((Nat.le_trans HW0.out (by rw [hg]; exact (keep_size (w := w) (g := g) (row := none) ab37_) : w.heap.size ≤ gb448) : w0.heap.size ≤ gb448)); have n9_ := am ((by rw [hg]; exact Nat.ne_of_lt (blk_lt (g := gb440) (o := .cells #[.slice none 0 0, .slice none 0 0] 26 (0, 0)) (aG_ BK440.out)) : gb440 ≠ gb448)); have n10_ := am ((by rw [hg]; exact Nat.ne_of_gt (blk_lt (g := gb440) (o := .cells #[.slice none 0 0, .slice none 0 0] 26 (0, 0)) (aG_ BK440.out)) : gb448 ≠ gb440)); have n11_ := am ((by rw [hg]; exact Nat.ne_of_lt (IsS66.lt (show IsS66 w0 _ g s0_0 t444 from by repeat (first | (with_reducible first | exact HI0.out | apply IsS66.alloc | apply IsS66.drewN | apply IsS66.drew | apply IsS66.set_1 | refine IsS66.far ?_ NB0_440.out _) | exact HI0.out))) : g ≠ gb448)); have n12_ := am ((by rw [hg]; exact Nat.ne_of_gt (IsS66.lt (show IsS66 w0 _ g s0_0 t444 from by repeat (first | (with_reducible first | exact HI0.out | apply IsS66.alloc | apply IsS66.drewN | apply IsS66.drew | apply IsS66.set_1 | refine IsS66.far ?_ NB0_440.out _) | exact HI0.out))) : gb448 ≠ g)); clear HO443 HO447 HI0 BK440 HK HB; have HO443 := n0_; have HO447 := n1_; have HI0 := n2_; have BK440 := n3_; have HK := n4_; have HB := n5_; have BK448 := n6_; have GW448 := n7_; have GE448 := n8_; have NB440_448 := n9_; have NB448_440 := n10_; have NB0_448 := n11_; have NB448_0 := n12_; clear n0_ n1_ n2_ n3_ n4_ n5_ n6_ n7_ n8_ n9_ n10_ n11_ n12_ hb hbox hg; have hnb11 := NB448_440.out; have hnc11 := NB440_448.out; have hnb12 := NB448_0.out; have hnc12 := NB0_448.out; obtain ⟨hcz13_0, hcz13_1, hfz13_0, hfz13_1⟩ := bcf2_ BK448.out) | ((with_reducible refine gate_callee (f := 50) rfl ?_); refine goesL_ (some 11) rfl rfl Try.func50 (by kernel_rfl) rfl #[.pointer (some ⟨g, 0, none⟩), .int .i64 3] rfl ab1_ ?_; (with_reducible refine (spec_l6Rd_pick.calls k g s0_0 t444 3 t449 t450 w0 _ ?side1 ?side2 A3.out).mono ?_); (case side1 => exact ab15_); (case side2 => exact ab41_); rintro e w14 ⟨rfl, hi, hb, hk⟩; refine ⟨_, rfl, ?_⟩; have n0_ := am (KeepBut.blk hk (g' := gb440) (o := .cells #[.slice none 0 0, .slice none 0 0] 26 (0, 0)) (by (with_reducible repeat (first | refine blk_drewN ?_ _ | refine blk_drew ?_ | refine blk_alloc ?_ _)); refine blk_far ?_ NB440_448.out _; (with_reducible repeat (first | refine blk_drewN ?_ _ | refine blk_drew ?_ | refine blk_alloc ?_ _)); refine blk_far ?_ NB440_448.out _; (with_reducible repeat (first | refine blk_drewN ?_ _ | refine blk_drew ?_ | refine blk_alloc ?_ _)); exact BK440.out) NB440_0.out (by simp)); have n1_ := am (Kd.R_mono (Kd.R_keep (IsS66.apart (show IsS66 w0 _ g s0_0 t444 from by repeat (first | (with_reducible first | exact HI0.out | apply IsS66.alloc | apply IsS66.drewN | apply IsS66.drew | apply IsS66.set_1 | refine IsS66.far ?_ NB0_440.out _ | refine IsS66.far ?_ NB0_448.out _) | exact HI0.out)) (by (with_reducible repeat (first | apply Kd.R_alloc | apply Kd.R_drewN | apply Kd.R_drew)); exact (Kd.R_mono (Kd.R_far (p := ⟨gb448, 1, none⟩) (Kd.R_far (p := ⟨gb448, 0, none⟩) (Kd.R_types HO443.out BK448.out (by decide)) (fun _ hk => hk.2) (.slice Ao9 t441.length co9)) (fun _ hk => hk.2) (.slice Ao8 y445.length co8)) (fun _ h_ => h_.1))) (by decide)) hk (fun _ h => h.2)) (fun _ h => h.1)); have n2_ := am (Kd.N_mono (Kd.N_keep (Kd.N_mono (ok := fun k_ => ((((w.heap.size ≤ k_)) ∧ (some k_ ≠ (.slice Ao9 t441.length co9 : Value).ownBlock ∧ (k_ ≠ gb440 ∧ k_ ≠ g))) ∧ k_ ≠ gb448)) (by (with_reducible repeat (first | apply Kd.N_alloc | apply Kd.N_drewN | apply Kd.N_drew)); exact (Kd.N_mono (Kd.N_far (p := ⟨gb448, 1, none⟩) (Kd.N_far (p := ⟨gb448, 0, none⟩) (Kd.N_mono HO447.out (fun k_ hk => (⟨hk, hk.2⟩ : _ ∧ k_ ≠ gb448))) (fun _ hk => hk.2) (.slice Ao9 t441.length co9)) (fun _ hk => hk.2) (.slice Ao8 y445.length co8)) (fun _ h_ => h_.1))) (fun k_ hk_ => (⟨hk_, hk_.1.2.2.2⟩ : _ ∧ k_ ≠ g))) hk (fun _ h => h.2)) (fun _ h => h.1)); have n3_ := am (KeepBut.blk hk (g' := gb448) (o := .cells #[.slice Ao9 t441.length co9, .slice Ao8 y445.length co8] 26 (0, 0)) (by (with_reducible repeat (first | refine blk_drewN ?_ _ | refine blk_drew ?_ | refine blk_alloc ?_ _)); refine blk_put (cs := #[.slice Ao9 t441.length co9, .slice none 0 0]) ?_ 1 _ rfl; (with_reducible repeat (first | refine blk_drewN ?_ _ | refine blk_drew ?_ | refine blk_alloc ?_ _)); refine blk_put (cs := #[.slice none 0 0, .slice none 0 0]) ?_ 0 _ rfl; (with_reducible repeat (first | refine blk_drewN ?_ _ | refine blk_drew ?_ | refine blk_alloc ?_ _)); exact BK448.out) NB448_0.out (by simp)); have n4_ := am (KeepBut.trans ab8_ hk (.inl rfl)); have n5_ := am (hb); have n6_ := am (hi); clear BK440 HO443 HO447 BK448 HK HB HI0; have BK440 := n0_; have HO443 := n1_; have HO447 := n2_; have BK448 := n3_; have HK := n4_; have HB := n5_; have HI0 := n6_; clear n0_ n1_ n2_ n3_ n4_ n5_ n6_; (try clear hb); (try clear hb2); (try clear hk); (try clear hi)))
 go_loopg [5] k (fun kq v5 w' => ∃ (x5_1 : Int) (x1001_1 : Int) (x449001_1 : List (List (S37))) (u449001 : Value), v5 = .int .i64 x5_1 ∧ Aside0 (spec_l92Program.l0 kq (wrap64 (1 + t449)) x5_1 s0_0 x1001_1 t441 x449001_1 = some (r1, r2, r3)) ∧ Aside0 (kq ≤ k) ∧ Aside0 (Kd.R (Kd.int .i64) 3 w' w.heap.size (fun k_ => (w.heap.size ≤ k_)) (.slice Ao9 t441.length co9) t441) ∧ Aside0 (Kd.N (Kd.slice 37 k37) 31 w' w.heap.size (fun k_ => (w.heap.size ≤ k_) ∧ some k_ ≠ ((.slice Ao9 t441.length co9) : Value).ownBlock ∧ k_ ≠ gb440 ∧ k_ ≠ gb448 ∧ k_ ≠ g) u449001 x449001_1) ∧ Aside0 (TF w' w.heap.size (fun k_ => (w.heap.size ≤ k_) ∧ some k_ ≠ ((.slice Ao9 t441.length co9) : Value).ownBlock ∧ k_ ≠ gb440 ∧ k_ ≠ gb448 ∧ k_ ≠ g) u449001 x449001_1) ∧ Aside0 (w'.heap[gb440]? = some (.cells #[(.slice none 0 0), (.slice none 0 0)] 26 (0, 0))) ∧ Aside0 (w'.heap[gb448]? = some (.cells #[(.slice Ao9 t441.length co9), u449001] 26 (0, 0))) ∧ Aside0 (IsS66 w0 w' g s0_0 x1001_1) ∧ Aside0 (KeepBut w w' g none) ∧ Aside0 (Below w0.heap.size w0 w'))
 case atStart => exact ⟨(0), (t450), (y445), (.slice Ao8 y445.length co8), (by first | rfl | (simp; done) | (simp [*]; done)), H', ⟨Nat.le_refl _⟩, ⟨by (with_reducible repeat (first | apply Kd.R_alloc | apply Kd.R_drewN | apply Kd.R_drew)); exact Kd.R_mono HO443.out (fun _ hk => hk.1)⟩, ⟨by (with_reducible repeat (first | apply Kd.N_alloc | apply Kd.N_drewN | apply Kd.N_drew)); exact Kd.N_mono HO447.out (fun _ hk => ⟨hk.1.1, ⟨hk.1.2.1, ⟨hk.1.2.2.1, ⟨hk.2, hk.1.2.2.2⟩⟩⟩⟩)⟩, ⟨TF_nil Ny445.out (by (with_reducible repeat (first | apply Kd.N_alloc | apply Kd.N_drewN | apply Kd.N_drew)); exact Kd.N_mono HO447.out (fun _ hk => ⟨hk.1.1, ⟨hk.1.2.1, ⟨hk.1.2.2.1, ⟨hk.2, hk.1.2.2.2⟩⟩⟩⟩))⟩, ⟨by (with_reducible repeat (first | refine blk_drewN ?_ _ | refine blk_drew ?_ | refine blk_alloc ?_ _)); exact BK440.out⟩, ⟨by (with_reducible repeat (first | refine blk_drewN ?_ _ | refine blk_drew ?_ | refine blk_alloc ?_ _)); exact BK448.out⟩, ⟨ab15_⟩, ⟨ab8_⟩, ⟨ab41_⟩⟩
 case round =>
  clear H'
  try clear hcz13_0
  try clear hcz13_1
  try clear hfz13_0
  try clear hfz13_1
  obtain ⟨x5_1, x1001_1, x449001_1, u449001, rfl, HA, HK1, HO_449000, HO_449001, HT, BK440, BK448, HI0, HK, HB⟩ := hrel
  cases gk with
  | zero => exact absurd HA.out (by simp [spec_l92Program.l0])
  | succ k1 =>
   have H := HA.out
   clear HA
   simp only [spec_l92Program.l0] at H
   by_cases c15 : x5_1 < (wrap64 (1 + t449))
   ·rw [if_pos c15] at H
    have c15b0 : decide (x5_1 < (wrap64 (1 + t449))) = true := decide_eq_true c15
    clear c15
    obtain ⟨⟨t451, t454⟩, A160, H⟩ := bsm H
    (try dsimp only at H)
    have A16 := am A160
    clear A160
    by_cases c17 : x449001_1.length < 5864062014805
    ·rw [if_pos c17] at H
     have LMc17 := am c17
     clear c17
     obtain ⟨y455, hy455⟩ : ∃ y_ : List (List (S37)), y_ = (x449001_1 ++ [t451]) := ⟨_, rfl⟩
     replace H : (spec_l92Program.l0 k1 (wrap64 (1 + t449)) (wrap64 (x5_1 + 1)) s0_0 t454 t441 y455) = some (r1, r2, r3) := by first | (rw [hy455]; with_reducible exact H) | (have H2_ := (Option.bind_some _ _).symm.trans H; rw [hy455]; with_reducible exact H2_) | (have H2_ := (Option.bind_some _ _).symm.trans H; with_reducible exact H2_) | with_reducible exact H | (rw [hy455]; exact H) | exact H
     have Ny455 := am hy455
     clear hy455
     have H' := am H
     clear H
     try go_wp2
     have n0_ := am (Kd.R_drew HO_449000.out)
     have n1_ := am (Kd.N_drew HO_449001.out)
     have n2_ := am (blk_drew BK440.out)
     have n3_ := am (blk_drew BK448.out)
     have n4_ := am (IsS66.drew HI0.out)
     have n5_ := am (keep_drew HK.out)
     have n6_ := am (below_drew1 HB.out)
     clear HO_449000
     clear HO_449001
     clear BK440
     clear BK448
     clear HI0
     clear HK
     clear HB
     have HO_449000 := n0_
     have HO_449001 := n1_
     have BK440 := n2_
     have BK448 := n3_
     have HI0 := n4_
     have HK := n5_
     have HB := n6_
     clear n0_ n1_ n2_ n3_ n4_ n5_ n6_
     refine start_ (n := 11) (S := fun w' => w'.cell? ⟨gb448, 0, none⟩ = some (.slice Ao9 t441.length co9) ∧ w'.cell? ⟨gb448, 1, none⟩ = some (u449001)) (ds := [10]) #[false, false, false, false, false, false, false, false, false, false, false] (by kernel_rfl) rfl rfl ⟨(blk_cell BK448.out 0).trans rfl, (blk_cell BK448.out 1).trans rfl⟩ (fun hHeld => ?_); refine with_tabW spec_l92Program.tab6 spec_l92Program.bits6 (fun HT_ HW_ => ?_)
     have nT_ := am (TF_drew HT.out)
     clear HT
     have HT := nT_
     clear nT_
     generalize wr.drew = w18 at HO_449000 HO_449001 HT BK440 BK448 HI0 HK HB hHeld ⊢
     refine pure_ (i := 0) (N := some 18) (v := ?_) (a' := ?_) #[true, false, false, false, false, false, false, false, false, false, false] rfl rfl (any_of HT_.out (by kernel_rfl)) (fun _ _ _ h => h) (Or.inl ⟨by rfl, ?_⟩) ?_ ?_
     rotate_left
     ·intro w'
      go_simp
      with_reducible rfl
     rotate_left
     ·simp only [Act.put, List.setIfInBounds_toArray, List.set_cons_zero, List.set_cons_succ, i64_w, i32_w]
      rfl
     refine pure_ (i := 2) (N := some 20) (v := ?_) (a' := ?_) #[true, false, true, false, false, false, false, false, false, false, false] rfl rfl (any_of HT_.out (by kernel_rfl)) (fun _ _ _ h => h) (Or.inl ⟨by rfl, ?_⟩) ?_ ?_
     rotate_left
     ·intro w'
      go_simp
      with_reducible rfl
     rotate_left
     ·simp only [Act.put, List.setIfInBounds_toArray, List.set_cons_zero, List.set_cons_succ, i64_w, i32_w]
      rfl
     refine pure_ (i := 3) (N := some 21) (v := ?_) (a' := ?_) #[true, false, true, true, false, false, false, false, false, false, false] rfl rfl (any_of HT_.out (by kernel_rfl)) (fun _ _ _ h => h) (Or.inl ⟨by rfl, ?_⟩) ?_ ?_
     rotate_left
     ·intro w'
      go_simp
      with_reducible rfl
     rotate_left
     ·simp only [Act.put, List.setIfInBounds_toArray, List.set_cons_zero, List.set_cons_succ, i64_w, i32_w]
      rfl
     refine take_ (i := 1) (N := some 19) (v := ?_) (a' := ?_) #[true, true, true, true, false, false, false, false, false, false, false] rfl rfl (take_ofW HT_.out HW_.out (by kernel_rfl)) (fun _ _ _ h => h) (Or.inl ⟨by rfl, ?_⟩) hHeld ?_ ?_
     rotate_left
     ·rintro w' ⟨s0, s1⟩
      go_simp
      with_reducible rfl
     rotate_left
     ·simp only [Act.put, List.setIfInBounds_toArray, List.set_cons_zero, List.set_cons_succ, i64_w, i32_w]
      rfl
     refine take_ (i := 4) (N := some 22) (v := ?_) (a' := ?_) #[true, true, true, true, true, false, false, false, false, false, false] rfl rfl (take_ofW HT_.out HW_.out (by kernel_rfl)) (fun _ _ _ h => h) (Or.inl ⟨by rfl, ?_⟩) hHeld ?_ ?_
     rotate_left
     ·rintro w' ⟨s0, s1⟩
      go_simp
      with_reducible rfl
     rotate_left
     ·simp only [Act.put, List.setIfInBounds_toArray, List.set_cons_zero, List.set_cons_succ, i64_w, i32_w]
      rfl
     refine pure_ (i := 5) (N := some 23) (v := ?_) (a' := ?_) #[true, true, true, true, true, true, false, false, false, false, false] rfl rfl (any_of HT_.out (by kernel_rfl)) (fun _ _ _ h => h) (Or.inl ⟨by rfl, ?_⟩) ?_ ?_
     rotate_left
     ·intro w'
      go_simp
      with_reducible rfl
     rotate_left
     ·simp only [Act.put, List.setIfInBounds_toArray, List.set_cons_zero, List.set_cons_succ, i64_w, i32_w]
      rfl
     refine one_ (i := 6) (N := some 24) #[true, true, true, true, true, true, true, false, false, false, false] rfl rfl (one_of HT_.out (by kernel_rfl)) (by decide) (fun K hK => ?_)
     refine goes_ Try.func61 (by kernel_rfl) rfl #[.pointer (some ⟨g, 0, none⟩), .int .i64 (t441.length : Int)] (by rfl) rfl rfl ab1_ ?_
     with_reducible refine (spec_l92Stmts.calls k1 g s0_0 x1001_1 (t441.length : Int) t451 t454 w0 _ ?side1 ?side2 A16.out).mono ?_
     (case side1 => exact ab15_)
     (case side2 => exact ab41_)
     rintro e w19 ⟨v452, rfl, ho0, hi, hb, hk⟩
     refine ⟨_, rfl, ?_⟩
     have n0_ := am (Kd.R_mono (Kd.R_keep (IsS66.apart (show IsS66 w0 _ g s0_0 x1001_1 from by repeat (first | (with_reducible first | exact HI0.out | apply IsS66.alloc | apply IsS66.drewN | apply IsS66.drew | apply IsS66.set_1 | refine IsS66.far ?_ NB0_440.out _ | refine IsS66.far ?_ NB0_448.out _) | exact HI0.out)) (aR_ HO_449000.out) (by decide)) hk (fun _ h => h.2)) (fun _ h => h.1))
     have n1_ := am (Kd.N_mono (Kd.N_told (Kd.N_oldK (Kd.N_mono (ok := fun k_ => (((w.heap.size ≤ k_)) ∧ (some k_ ≠ (.slice Ao9 t441.length co9 : Value).ownBlock ∧ (k_ ≠ gb440 ∧ (k_ ≠ gb448 ∧ k_ ≠ g))))) (aN_ HO_449001.out) (fun k_ hk_ => (⟨hk_, hk_.2.2.2.2⟩ : _ ∧ k_ ≠ g))) hk) (by first | exact Kd.N_base ho0 | exact Kd.N_base (Kd.R_N ho0))) (fun _ h_ => h_.1))
     have nT_ := am (show TF _ w.heap.size (fun k_ => ((w.heap.size ≤ k_) ∧ some k_ ≠ ((.slice Ao9 t441.length co9) : Value).ownBlock ∧ k_ ≠ gb440 ∧ k_ ≠ gb448 ∧ k_ ≠ g) ∧ k_ < w18.heap.size) u449001 x449001_1 from (TF_oldK (TF_mono (ok := fun k_ => (((w.heap.size ≤ k_)) ∧ (some k_ ≠ (.slice Ao9 t441.length co9 : Value).ownBlock ∧ (k_ ≠ gb440 ∧ (k_ ≠ gb448 ∧ k_ ≠ g))))) (by (with_reducible repeat (first | apply TF_alloc | apply TF_drewN | apply TF_drew)); exact HT.out) (fun k_ hk_ => (⟨hk_, hk_.2.2.2.2⟩ : _ ∧ k_ ≠ g))) hk))
     clear HT
     have HT := nT_
     clear nT_
     have n2_ := am (KeepBut.blk hk (g' := gb440) (o := .cells #[.slice none 0 0, .slice none 0 0] 26 (0, 0)) (aG_ BK440.out) NB440_0.out (by simp))
     have n3_ := am (KeepBut.blk hk (g' := gb448) (o := .cells #[.slice Ao9 t441.length co9, u449001] 26 (0, 0)) (aG_ BK448.out) NB448_0.out (by simp))
     have n4_ := am (Kd.N_lower (Kd.N_mono (ok' := fun k_ => (w.heap.size ≤ k_) ∧ some k_ ≠ (.slice Ao9 t441.length co9 : Value).ownBlock ∧ some k_ ≠ (u449001 : Value).ownBlock ∧ k_ ≠ gb440 ∧ k_ ≠ gb448 ∧ k_ ≠ g) ho0 (fun k_ hk_ => ⟨(Nat.le_trans (keep_size (w := w) (g := g) (row := none) ab8_) hk_), (Kd.fresh' (Kd.R_lt (aR_ HO_449000.out)) k_ hk_), (Kd.fresh' (Kd.N_lt (aN_ HO_449001.out)) k_ hk_), (Kd.freshB (g := gb440) (o := .cells #[.slice none 0 0, .slice none 0 0] 26 (0, 0)) (aG_ BK440.out) k_ hk_), (Kd.freshB (g := gb448) (o := .cells #[.slice Ao9 t441.length co9, u449001] 26 (0, 0)) (aG_ BK448.out) k_ hk_), (IsS66.fresh ab15_ k_ hk_)⟩)) (keep_size (w := w) (g := g) (row := none) ab8_))
     have HE0 := am (Kd.N_lower (Kd.N_mono (ok' := fun k_ => ((w.heap.size ≤ k_) ∧ some k_ ≠ (.slice Ao9 t441.length co9 : Value).ownBlock ∧ some k_ ≠ (u449001 : Value).ownBlock ∧ k_ ≠ gb440 ∧ k_ ≠ gb448 ∧ k_ ≠ g) ∧ w18.heap.size ≤ k_) ho0 (fun k_ hk_ => ⟨⟨(Nat.le_trans (keep_size (w := w) (g := g) (row := none) ab8_) hk_), (Kd.fresh' (Kd.R_lt (aR_ HO_449000.out)) k_ hk_), (Kd.fresh' (Kd.N_lt (aN_ HO_449001.out)) k_ hk_), (Kd.freshB (g := gb440) (o := .cells #[.slice none 0 0, .slice none 0 0] 26 (0, 0)) (aG_ BK440.out) k_ hk_), (Kd.freshB (g := gb448) (o := .cells #[.slice Ao9 t441.length co9, u449001] 26 (0, 0)) (aG_ BK448.out) k_ hk_), (IsS66.fresh ab15_ k_ hk_)⟩, hk_⟩)) (keep_size (w := w) (g := g) (row := none) ab8_))
     have n5_ := am (KeepBut.trans ab8_ hk (.inl rfl))
     have n6_ := am (hb)
     have n7_ := am (hi)
     clear HO_449000
     clear HO_449001
     clear BK440
     clear BK448
     clear HK
     clear HB
     clear HI0
     have HO_449000 := n0_
     have HO_449001 := n1_
     have BK440 := n2_
     have BK448 := n3_
     have HO453 := n4_
     have HK := n5_
     have HB := n6_
     have HI0 := n7_
     clear n0_ n1_ n2_ n3_ n4_ n5_ n6_ n7_
     (try clear hb)
     (try clear hb2)
     (try clear hk)
     (try clear hi)
     (try clear ho0)
     obtain ⟨Ao21, co21, eo21⟩ := Kd.N_slice HO453.out
     (first | subst eo21 | (injection eo21 with f1_ f2_ f3_; have f4_ := f1_.symm; have f5_ := f3_.symm; clear f1_ f2_ f3_; subst f4_; subst f5_))
     refine hK.out _ _ ⟨(blk_cell BK448.out 0).trans rfl, (blk_cell BK448.out 1).trans rfl⟩ (fun hHeld => ?_)
     clear hK K
     refine norm_ (a' := ?_) ?_ ?_
     rotate_left
     ·show Act.put _ (some 24) _ = _
      simp only [Act.put, List.setIfInBounds_toArray, List.set_cons_zero, List.set_cons_succ, i64_w, i32_w]
      rfl
     refine one_ (i := 7) (N := some 25) #[true, true, true, true, true, true, true, true, false, false, false] rfl rfl (one_of HT_.out (by kernel_rfl)) (by decide) (fun K hK => ?_)
     refine value_ (w1 := ?_) (v := ?_) (by rfl) rfl ?_ ?_
     rotate_left 2
     ·go_simp
      constructor
      ·rfl
      ·rfl
     refine hK.out _ _ ⟨(blk_cell (blk_alloc BK448.out _) 0).trans rfl, (blk_cell (blk_alloc BK448.out _) 1).trans rfl⟩ (fun hHeld => ?_)
     clear hK K
     refine norm_ (a' := ?_) ?_ ?_
     rotate_left
     ·show Act.put _ (some 25) _ = _
      simp only [Act.put, List.setIfInBounds_toArray, List.set_cons_zero, List.set_cons_succ, i64_w, i32_w]
      rfl
     refine one_ (i := 8) (N := some 26) #[true, true, true, true, true, true, true, true, true, false, false] rfl rfl (one_of HT_.out (by kernel_rfl)) (by decide) (fun K hK => ?_)
     refine TF_append_step w.heap.size (by rfl) (.tmp 19) (.tmp 25) 24 (.slice none 0 0) 24 rfl Try.underlying24 info31 rfl (by omega) u449001 (.slice Ao21 t451.length co21) x449001_1 t451 (fun k_ => (w.heap.size ≤ k_) ∧ some k_ ≠ ((.slice Ao9 t441.length co9) : Value).ownBlock ∧ k_ ≠ gb440 ∧ k_ ≠ gb448 ∧ k_ ≠ g) (fun k_ => ((w.heap.size ≤ k_) ∧ some k_ ≠ ((.slice Ao9 t441.length co9) : Value).ownBlock ∧ k_ ≠ gb440 ∧ k_ ≠ gb448 ∧ k_ ≠ g) ∧ k_ < w18.heap.size) (fun k_ => ((w.heap.size ≤ k_) ∧ some k_ ≠ (.slice Ao9 t441.length co9 : Value).ownBlock ∧ some k_ ≠ (u449001 : Value).ownBlock ∧ k_ ≠ gb440 ∧ k_ ≠ gb448 ∧ k_ ≠ g) ∧ w18.heap.size ≤ k_) rfl rfl HE0.out ?aP (fun _ hk => hk.1) (fun _ h0 h1 => absurd h1.2 (Nat.not_le.mpr h0.2)) ?aF ?aO (Below.refl _ _) ?aS ?aL ?_
     (case aP => exact (fun k_ hk => ⟨⟨hk.1.1, hk.1.2.1, hk.1.2.2.2.1, hk.1.2.2.2.2.1, hk.1.2.2.2.2.2⟩, hk.1.2.2.1⟩))
     (case aF => exact (fun k_ hk => ⟨(Nat.le_trans (keep_size (w := w) (g := g) (row := none) ab8_) hk), Kd.fresh' (Kd.R_lt (aR_ HO_449000.out)) k_ hk, Kd.freshB (g := gb440) (o := .cells #[.slice none 0 0, .slice none 0 0] 26 (0, 0)) (aG_ BK440.out) k_ hk, Kd.freshB (g := gb448) (o := .cells #[.slice Ao9 t441.length co9, u449001] 26 (0, 0)) (aG_ BK448.out) k_ hk, IsS66.fresh ab15_ k_ hk⟩))
     (case aO => exact HT.out)
     (case aS => exact (keep_size (w := w) (g := g) (row := none) ab8_))
     (case aL => have := LMc17.out; omega)
     intro v456 w20 hot hb hg hat
     have ho := TF_N hot
     rw [← Ny455.out] at ho hot
     clear HT HE0
     have HT := am hot
     clear hot
     have n0_ := am (Kd.R_over' (aR_ HO_449000.out) (Kd.N_typed (aN_ HO_449001.out)) (by decide) hg)
     have n1_ := am (blk_grown (g := gb440) (o := .cells #[.slice none 0 0, .slice none 0 0] 26 (0, 0)) (aG_ BK440.out) hg (Kd.N_ne HO_449001.out BK440.out (by decide)))
     have n2_ := am (blk_grown (g := gb448) (o := .cells #[.slice Ao9 t441.length co9, u449001] 26 (0, 0)) (aG_ BK448.out) hg (Kd.N_ne HO_449001.out BK448.out (by decide)))
     have n3_ := am (IsS66.grown ab15_ hg (IsS66.own_neN HI0.out HO_449001.out (by decide)))
     have n4_ := am (below_weaken ab41_ HL.out hb)
     have n5_ := am (KeepBut.trans ab8_ (KeepBut.of_grown hg g) (Kd.N_base2 HO_449001.out))
     have n6_ := am (ho)
     clear HO_449000
     clear BK440
     clear BK448
     clear HI0
     clear HB
     clear HK
     clear HO_449001
     clear HO453
     have HO_449000 := n0_
     have BK440 := n1_
     have BK448 := n2_
     have HI0 := n3_
     have HB := n4_
     have HK := n5_
     have HO457 := n6_
     clear n0_ n1_ n2_ n3_ n4_ n5_ n6_
     clear ho hb hg hat
     obtain ⟨Ao22, co22, eo22⟩ := Kd.N_slice HO457.out
     (first | subst eo22 | (injection eo22 with f1_ f2_ f3_; have f4_ := f1_.symm; have f5_ := f3_.symm; clear f1_ f2_ f3_; subst f4_; subst f5_))
     refine hK.out _ _ ⟨(blk_cell BK448.out 0).trans rfl, (blk_cell BK448.out 1).trans rfl⟩ (fun hHeld => ?_)
     clear hK K
     refine norm_ (a' := ?_) ?_ ?_
     rotate_left
     ·show Act.put _ (some 26) _ = _
      simp only [Act.put, List.setIfInBounds_toArray, List.set_cons_zero, List.set_cons_succ, i64_w, i32_w]
      rfl
     refine pure_ (i := 9) (N := some 27) (v := ?_) (a' := ?_) #[true, true, true, true, true, true, true, true, true, true, false] rfl rfl (any_of HT_.out (by kernel_rfl)) (fun _ _ _ h => h) (Or.inl ⟨by rfl, ?_⟩) ?_ ?_
     rotate_left
     ·intro w'
      go_simp
      with_reducible rfl
     rotate_left
     ·simp only [Act.put, List.setIfInBounds_toArray, List.set_cons_zero, List.set_cons_succ, i64_w, i32_w]
      rfl
     refine last_ (i := 10) (N := none) #[true, true, true, true, true, true, true, true, true, true, true] rfl rfl (one_of HT_.out (by kernel_rfl)) (by decide) (fun K hK => ?_)
     have hs23 : w20.cell? ⟨gb448, 1, none⟩ = some (u449001) := (blk_cell BK448.out 1).trans rfl
     have hfs23 := blk_frozen BK448.out 1
     have hns23_0 := NB440_448.out
     have hms23_0 := NB448_440.out
     refine skip_ (w1 := ?_) (by rfl) rfl ?_ ?_
     rotate_left
     ·go_simp
      rfl
     refine hK.out _ _ ?_
     clear hK K
     refine done_ (done_of HT_.out (by kernel_rfl)) ?_
     try go_wp2
     go_roundg k1
     case measure => have := HK1.out; omega
     case rel => exact ⟨(wrap64 (x5_1 + 1)), (t454), (y455), (.slice Ao22 y455.length co22), (by first | rfl | (simp; done) | (simp [*]; done)), H', ⟨by have := HK1.out; omega⟩, ⟨by (with_reducible repeat (first | apply Kd.R_alloc | apply Kd.R_drewN | apply Kd.R_drew)); exact Kd.R_mono (Kd.R_far (p := ⟨gb448, 1, none⟩) (Kd.R_types HO_449000.out BK448.out (by decide)) (fun _ hk => hk.2) (.slice Ao22 y455.length co22)) (fun _ hk => hk.1)⟩, ⟨by (with_reducible repeat (first | apply Kd.N_alloc | apply Kd.N_drewN | apply Kd.N_drew)); exact Kd.N_mono (Kd.N_far (p := ⟨gb448, 1, none⟩) (Kd.N_mono HO457.out (fun k_ hk => (⟨hk, hk.2.2.2.1⟩ : _ ∧ k_ ≠ gb448))) (fun _ hk => hk.2) (.slice Ao22 y455.length co22)) (fun _ hk => ⟨hk.1.1, ⟨hk.1.2.1, ⟨hk.1.2.2.1, ⟨hk.1.2.2.2.1, hk.1.2.2.2.2⟩⟩⟩⟩)⟩, ⟨by (with_reducible repeat (first | apply TF_alloc | apply TF_drewN | apply TF_drew)); exact TF_mono (TF_far (p := ⟨gb448, 1, none⟩) (TF_mono HT.out (fun k_ hk => (⟨hk, hk.2.2.2.1⟩ : _ ∧ k_ ≠ gb448))) (fun _ hk => hk.2) (.slice Ao22 y455.length co22)) (fun _ hk => ⟨hk.1.1, ⟨hk.1.2.1, ⟨hk.1.2.2.1, ⟨hk.1.2.2.2.1, hk.1.2.2.2.2⟩⟩⟩⟩)⟩, ⟨by (with_reducible repeat (first | refine blk_drewN ?_ _ | refine blk_drew ?_ | refine blk_alloc ?_ _)); refine blk_far ?_ NB440_448.out _; (with_reducible repeat (first | refine blk_drewN ?_ _ | refine blk_drew ?_ | refine blk_alloc ?_ _)); exact BK440.out⟩, ⟨by (with_reducible repeat (first | refine blk_drewN ?_ _ | refine blk_drew ?_ | refine blk_alloc ?_ _)); refine blk_put (cs := #[.slice Ao9 t441.length co9, u449001]) ?_ 1 _ rfl; (with_reducible repeat (first | refine blk_drewN ?_ _ | refine blk_drew ?_ | refine blk_alloc ?_ _)); exact BK448.out⟩, ⟨ab15_⟩, ⟨ab8_⟩, ⟨ab41_⟩⟩
    rw [if_neg c17] at H
    exact absurd H (by simp)
   rw [if_neg c15] at H
   have c15b0 : decide (x5_1 < (wrap64 (1 + t449))) = false := decide_eq_false c15
   clear c15
   obtain ⟨⟨t458, t459⟩, A240, H⟩ := bsm H
   (try dsimp only at H)
   have A24 := am A240
   clear A240
   by_cases c25 : t458 = 0
   ·rw [if_pos c25] at H
    have c25b0 : (t458 == 0) = true := beq_iff_eq.mpr c25
    have c25b1 : (t458 != 0) = false := bne_eq_false_iff_eq.mpr c25
    clear c25
    obtain ⟨⟨t460, t461, t462, t463, t464, t465, t468, t471, t474⟩, A260, H⟩ := bsm H
    (try dsimp only at H)
    have A26 := am A260
    clear A260
    obtain ⟨y475, hy475⟩ : ∃ y_ : List (S37), y_ = (([(⟨t460, t461, t462, (⟨t463, t464, t465⟩ : S34), t468, t471⟩ : S37)] : List (S37))) := ⟨_, rfl⟩
    replace H : (if 0 < (x449001_1.length : Int) then (some (t441, (x449001_1.set (0 : Int).toNat y475), t474)) else (none)) = some (r1, r2, r3) := by first | (rw [hy475]; with_reducible exact H) | (have H2_ := (Option.bind_some _ _).symm.trans H; rw [hy475]; with_reducible exact H2_) | (have H2_ := (Option.bind_some _ _).symm.trans H; with_reducible exact H2_) | with_reducible exact H | (rw [hy475]; exact H) | exact H
    have Ny475 := am hy475
    clear hy475
    by_cases c27 : 0 < (x449001_1.length : Int)
    ·rw [if_pos c27] at H
     have c27b0 : decide (0 < (x449001_1.length : Int)) = true := decide_eq_true c27
     have c27b1 : decide (0 < x449001_1.length) = true := decide_eq_true (by omega)
     clear c27
     obtain ⟨y478, hy478⟩ : ∃ y_ : List (List (S37)), y_ = (x449001_1.set (0 : Int).toNat y475) := ⟨_, rfl⟩
     replace H : (some (t441, y478, t474)) = some (r1, r2, r3) := by first | (rw [hy478]; with_reducible exact H) | (have H2_ := (Option.bind_some _ _).symm.trans H; rw [hy478]; with_reducible exact H2_) | (have H2_ := (Option.bind_some _ _).symm.trans H; with_reducible exact H2_) | with_reducible exact H | (rw [hy478]; exact H) | exact H
     have Ny478 := am hy478
     clear hy478
     simp only [Option.some.injEq, Prod.mk.injEq] at H
     obtain ⟨rfl, rfl, rfl⟩ := H
     try go_wp2_with (first | ((with_reducible refine gate_callee (f := 50) rfl ?_); refine goesL_ (some 29) rfl rfl Try.func50 (by kernel_rfl) rfl #[.pointer (some ⟨g, 0, none⟩), .int .i64 16] rfl ab1_ ?_; (with_reducible refine (spec_l6Rd_pick.calls k1 g s0_0 x1001_1 16 t458 t459 w0 _ ?side1 ?side2 A24.out).mono ?_); (case side1 => exact ab15_); (case side2 => exact ab41_); rintro e w29 ⟨rfl, hi, hb, hk⟩; refine ⟨_, rfl, ?_⟩; have n0_ := am (Kd.R_mono (Kd.R_keep (IsS66.apart (show IsS66 w0 _ g s0_0 x1001_1 from by repeat (first | (with_reducible first | exact HI0.out | apply IsS66.alloc | apply IsS66.drewN | apply IsS66.drew | apply IsS66.set_1 | refine IsS66.far ?_ NB0_440.out _ | refine IsS66.far ?_ NB0_448.out _) | exact HI0.out)) (aR_ HO_449000.out) (by decide)) hk (fun _ h => h.2)) (fun _ h => h.1)); have n1_ := am (Kd.N_mono (Kd.N_keep (Kd.N_mono (ok := fun k_ => (((w.heap.size ≤ k_)) ∧ (some k_ ≠ (.slice Ao9 t441.length co9 : Value).ownBlock ∧ (k_ ≠ gb440 ∧ (k_ ≠ gb448 ∧ k_ ≠ g))))) (aN_ HO_449001.out) (fun k_ hk_ => (⟨hk_, hk_.2.2.2.2⟩ : _ ∧ k_ ≠ g))) hk (fun _ h => h.2)) (fun _ h => h.1)); have nT_ := am (TF_mono (TF_keep (TF_mono (ok := fun k_ => (((w.heap.size ≤ k_)) ∧ (some k_ ≠ (.slice Ao9 t441.length co9 : Value).ownBlock ∧ (k_ ≠ gb440 ∧ (k_ ≠ gb448 ∧ k_ ≠ g))))) (by (with_reducible repeat (first | apply TF_alloc | apply TF_drewN | apply TF_drew)); exact HT.out) (fun k_ hk_ => (⟨hk_, hk_.2.2.2.2⟩ : _ ∧ k_ ≠ g))) hk (fun _ h => h.2)) (fun _ h => h.1)); clear HT; have HT := nT_; clear nT_; have n2_ := am (KeepBut.blk hk (g' := gb440) (o := .cells #[.slice none 0 0, .slice none 0 0] 26 (0, 0)) (aG_ BK440.out) NB440_0.out (by simp)); have n3_ := am (KeepBut.blk hk (g' := gb448) (o := .cells #[.slice Ao9 t441.length co9, u449001] 26 (0, 0)) (aG_ BK448.out) NB448_0.out (by simp)); have n4_ := am (KeepBut.trans ab8_ hk (.inl rfl)); have n5_ := am (hb); have n6_ := am (hi); clear HO_449000 HO_449001 BK440 BK448 HK HB HI0; have HO_449000 := n0_; have HO_449001 := n1_; have BK440 := n2_; have BK448 := n3_; have HK := n4_; have HB := n5_; have HI0 := n6_; clear n0_ n1_ n2_ n3_ n4_ n5_ n6_; (try clear hb); (try clear hb2); (try clear hk); (try clear hi)))
     have n0_ := am (Kd.R_drew HO_449000.out)
     have n1_ := am (Kd.N_drew HO_449001.out)
     have n2_ := am (blk_drew BK440.out)
     have n3_ := am (blk_drew BK448.out)
     have n4_ := am (IsS66.drew HI0.out)
     have n5_ := am (keep_drew HK.out)
     have n6_ := am (below_drew1 HB.out)
     clear HO_449000
     clear HO_449001
     clear BK440
     clear BK448
     clear HI0
     clear HK
     clear HB
     have HO_449000 := n0_
     have HO_449001 := n1_
     have BK440 := n2_
     have BK448 := n3_
     have HI0 := n4_
     have HK := n5_
     have HB := n6_
     clear n0_ n1_ n2_ n3_ n4_ n5_ n6_
     refine start_ (n := 7) (S := fun w' => w'.cell? ⟨gb448, 0, none⟩ = some (.slice Ao9 t441.length co9) ∧ w'.cell? ⟨gb448, 1, none⟩ = some (u449001)) (ds := [6]) #[false, false, false, false, false, false, false] (by kernel_rfl) rfl rfl ⟨(blk_cell BK448.out 0).trans rfl, (blk_cell BK448.out 1).trans rfl⟩ (fun hHeld => ?_)
     have nT_ := am (TF_drew HT.out)
     clear HT
     have HT := nT_
     clear nT_
     generalize w29.drew = w30 at HO_449000 HO_449001 HT BK440 BK448 HI0 HK HB hHeld ⊢
     refine pure_ (i := 0) (N := some 31) (v := ?_) (a' := ?_) #[true, false, false, false, false, false, false] rfl rfl (by kernel_rfl) (fun _ _ _ h => h) (Or.inl ⟨by rfl, ?_⟩) ?_ ?_
     rotate_left
     ·intro w'
      go_simp
      with_reducible rfl
     rotate_left
     ·simp only [Act.put, List.setIfInBounds_toArray, List.set_cons_zero, List.set_cons_succ, i64_w, i32_w]
      rfl
     refine pure_ (i := 2) (N := some 33) (v := ?_) (a' := ?_) #[true, false, true, false, false, false, false] rfl rfl (by kernel_rfl) (fun _ _ _ h => h) (Or.inl ⟨by rfl, ?_⟩) ?_ ?_
     rotate_left
     ·intro w'
      go_simp
      with_reducible rfl
     rotate_left
     ·simp only [Act.put, List.setIfInBounds_toArray, List.set_cons_zero, List.set_cons_succ, i64_w, i32_w]
      rfl
     refine take_ (i := 1) (N := some 32) (v := ?_) (a' := ?_) #[true, true, true, false, false, false, false] rfl rfl (by kernel_rfl) (fun _ _ _ h => h) (Or.inl ⟨by rfl, ?_⟩) hHeld ?_ ?_
     rotate_left
     ·rintro w' ⟨s0, s1⟩
      go_simp
      with_reducible rfl
     rotate_left
     ·simp only [Act.put, List.setIfInBounds_toArray, List.set_cons_zero, List.set_cons_succ, i64_w, i32_w]
      rfl
     refine one_ (i := 3) (N := some 34) #[true, true, true, true, false, false, false] rfl rfl (by kernel_rfl) (by decide) (fun K hK => ?_)
     refine goes_ Try.func62 (by kernel_rfl) rfl #[.pointer (some ⟨g, 0, none⟩)] (by rfl) rfl rfl ab1_ ?_
     with_reducible refine (spec_l92Endless.calls k1 g s0_0 t459 t460 t461 t462 t463 t464 t465 t468 t471 t474 w0 _ ?side1 ?side2 A26.out).mono ?_
     (case side1 => exact ab15_)
     (case side2 => exact ab41_)
     rintro e w31 ⟨v466, v469, v472, rfl, ho0, ho1, ho2, hi, hb, hk⟩
     refine ⟨_, rfl, ?_⟩
     have n0_ := am (Kd.R_mono (Kd.R_keep (IsS66.apart (show IsS66 w0 _ g s0_0 t459 from by repeat (first | (with_reducible first | exact HI0.out | apply IsS66.alloc | apply IsS66.drewN | apply IsS66.drew | apply IsS66.set_1 | refine IsS66.far ?_ NB0_440.out _ | refine IsS66.far ?_ NB0_448.out _) | exact HI0.out)) (aR_ HO_449000.out) (by decide)) hk (fun _ h => h.2)) (fun _ h => h.1))
     have n1_ := am (Kd.N_mono (Kd.N_told (Kd.N_told (Kd.N_told (Kd.N_oldK (Kd.N_mono (ok := fun k_ => (((w.heap.size ≤ k_)) ∧ (some k_ ≠ (.slice Ao9 t441.length co9 : Value).ownBlock ∧ (k_ ≠ gb440 ∧ (k_ ≠ gb448 ∧ k_ ≠ g))))) (aN_ HO_449001.out) (fun k_ hk_ => (⟨hk_, hk_.2.2.2.2⟩ : _ ∧ k_ ≠ g))) hk) (by first | exact Kd.N_base ho0 | exact Kd.N_base (Kd.R_N ho0))) (Kd.N_base ho1)) (Kd.N_base ho2)) (fun _ h_ => h_.1))
     have nT_ := am (show TF _ w.heap.size (fun k_ => ((w.heap.size ≤ k_) ∧ some k_ ≠ ((.slice Ao9 t441.length co9) : Value).ownBlock ∧ k_ ≠ gb440 ∧ k_ ≠ gb448 ∧ k_ ≠ g) ∧ k_ < w30.heap.size) u449001 x449001_1 from (TF_oldK (TF_mono (ok := fun k_ => (((w.heap.size ≤ k_)) ∧ (some k_ ≠ (.slice Ao9 t441.length co9 : Value).ownBlock ∧ (k_ ≠ gb440 ∧ (k_ ≠ gb448 ∧ k_ ≠ g))))) (by (with_reducible repeat (first | apply TF_alloc | apply TF_drewN | apply TF_drew)); exact HT.out) (fun k_ hk_ => (⟨hk_, hk_.2.2.2.2⟩ : _ ∧ k_ ≠ g))) hk))
     clear HT
     have HT := nT_
     clear nT_
     have HS := am (keep_size (w := w30) (g := g) (row := none) hk)
     have n2_ := am (KeepBut.blk hk (g' := gb440) (o := .cells #[.slice none 0 0, .slice none 0 0] 26 (0, 0)) (aG_ BK440.out) NB440_0.out (by simp))
     have n3_ := am (KeepBut.blk hk (g' := gb448) (o := .cells #[.slice Ao9 t441.length co9, u449001] 26 (0, 0)) (aG_ BK448.out) NB448_0.out (by simp))
     have n4_ := am (Kd.N_lower (Kd.N_mono (ok' := fun k_ => (w.heap.size ≤ k_) ∧ some k_ ≠ (v469 : Value).ownBlock ∧ some k_ ≠ (v472 : Value).ownBlock ∧ some k_ ≠ (.slice Ao9 t441.length co9 : Value).ownBlock ∧ some k_ ≠ (u449001 : Value).ownBlock ∧ k_ ≠ gb440 ∧ k_ ≠ gb448 ∧ k_ ≠ g) ho0 (fun k_ hk_ => ⟨(Nat.le_trans (keep_size (w := w) (g := g) (row := none) ab8_) hk_.1), hk_.2.1, hk_.2.2, (Kd.fresh' (Kd.R_lt (aR_ HO_449000.out)) k_ hk_.1), (Kd.fresh' (Kd.N_lt (aN_ HO_449001.out)) k_ hk_.1), (Kd.freshB (g := gb440) (o := .cells #[.slice none 0 0, .slice none 0 0] 26 (0, 0)) (aG_ BK440.out) k_ hk_.1), (Kd.freshB (g := gb448) (o := .cells #[.slice Ao9 t441.length co9, u449001] 26 (0, 0)) (aG_ BK448.out) k_ hk_.1), (IsS66.fresh ab15_ k_ hk_.1)⟩)) (keep_size (w := w) (g := g) (row := none) ab8_))
     have HE0 := am (Kd.N_lower (Kd.N_mono (ok' := fun k_ => ((w.heap.size ≤ k_) ∧ some k_ ≠ (v469 : Value).ownBlock ∧ some k_ ≠ (v472 : Value).ownBlock ∧ some k_ ≠ (.slice Ao9 t441.length co9 : Value).ownBlock ∧ some k_ ≠ (u449001 : Value).ownBlock ∧ k_ ≠ gb440 ∧ k_ ≠ gb448 ∧ k_ ≠ g) ∧ w30.heap.size ≤ k_) ho0 (fun k_ hk_ => ⟨⟨(Nat.le_trans (keep_size (w := w) (g := g) (row := none) ab8_) hk_.1), hk_.2.1, hk_.2.2, (Kd.fresh' (Kd.R_lt (aR_ HO_449000.out)) k_ hk_.1), (Kd.fresh' (Kd.N_lt (aN_ HO_449001.out)) k_ hk_.1), (Kd.freshB (g := gb440) (o := .cells #[.slice none 0 0, .slice none 0 0] 26 (0, 0)) (aG_ BK440.out) k_ hk_.1), (Kd.freshB (g := gb448) (o := .cells #[.slice Ao9 t441.length co9, u449001] 26 (0, 0)) (aG_ BK448.out) k_ hk_.1), (IsS66.fresh ab15_ k_ hk_.1)⟩, hk_.1⟩)) (keep_size (w := w) (g := g) (row := none) ab8_))
     have n5_ := am (Kd.N_lower (Kd.N_mono (ok' := fun k_ => (w.heap.size ≤ k_) ∧ some k_ ≠ (v466 : Value).ownBlock ∧ some k_ ≠ (v472 : Value).ownBlock ∧ some k_ ≠ (.slice Ao9 t441.length co9 : Value).ownBlock ∧ some k_ ≠ (u449001 : Value).ownBlock ∧ k_ ≠ gb440 ∧ k_ ≠ gb448 ∧ k_ ≠ g) ho1 (fun k_ hk_ => ⟨(Nat.le_trans (keep_size (w := w) (g := g) (row := none) ab8_) hk_.1), hk_.2.1, hk_.2.2, (Kd.fresh' (Kd.R_lt (aR_ HO_449000.out)) k_ hk_.1), (Kd.fresh' (Kd.N_lt (aN_ HO_449001.out)) k_ hk_.1), (Kd.freshB (g := gb440) (o := .cells #[.slice none 0 0, .slice none 0 0] 26 (0, 0)) (aG_ BK440.out) k_ hk_.1), (Kd.freshB (g := gb448) (o := .cells #[.slice Ao9 t441.length co9, u449001] 26 (0, 0)) (aG_ BK448.out) k_ hk_.1), (IsS66.fresh ab15_ k_ hk_.1)⟩)) (keep_size (w := w) (g := g) (row := none) ab8_))
     have HE1 := am (Kd.N_lower (Kd.N_mono (ok' := fun k_ => ((w.heap.size ≤ k_) ∧ some k_ ≠ (v466 : Value).ownBlock ∧ some k_ ≠ (v472 : Value).ownBlock ∧ some k_ ≠ (.slice Ao9 t441.length co9 : Value).ownBlock ∧ some k_ ≠ (u449001 : Value).ownBlock ∧ k_ ≠ gb440 ∧ k_ ≠ gb448 ∧ k_ ≠ g) ∧ w30.heap.size ≤ k_) ho1 (fun k_ hk_ => ⟨⟨(Nat.le_trans (keep_size (w := w) (g := g) (row := none) ab8_) hk_.1), hk_.2.1, hk_.2.2, (Kd.fresh' (Kd.R_lt (aR_ HO_449000.out)) k_ hk_.1), (Kd.fresh' (Kd.N_lt (aN_ HO_449001.out)) k_ hk_.1), (Kd.freshB (g := gb440) (o := .cells #[.slice none 0 0, .slice none 0 0] 26 (0, 0)) (aG_ BK440.out) k_ hk_.1), (Kd.freshB (g := gb448) (o := .cells #[.slice Ao9 t441.length co9, u449001] 26 (0, 0)) (aG_ BK448.out) k_ hk_.1), (IsS66.fresh ab15_ k_ hk_.1)⟩, hk_.1⟩)) (keep_size (w := w) (g := g) (row := none) ab8_))
     have n6_ := am (Kd.N_lower (Kd.N_mono (ok' := fun k_ => (w.heap.size ≤ k_) ∧ some k_ ≠ (v466 : Value).ownBlock ∧ some k_ ≠ (v469 : Value).ownBlock ∧ some k_ ≠ (.slice Ao9 t441.length co9 : Value).ownBlock ∧ some k_ ≠ (u449001 : Value).ownBlock ∧ k_ ≠ gb440 ∧ k_ ≠ gb448 ∧ k_ ≠ g) ho2 (fun k_ hk_ => ⟨(Nat.le_trans (keep_size (w := w) (g := g) (row := none) ab8_) hk_.1), hk_.2.1, hk_.2.2, (Kd.fresh' (Kd.R_lt (aR_ HO_449000.out)) k_ hk_.1), (Kd.fresh' (Kd.N_lt (aN_ HO_449001.out)) k_ hk_.1), (Kd.freshB (g := gb440) (o := .cells #[.slice none 0 0, .slice none 0 0] 26 (0, 0)) (aG_ BK440.out) k_ hk_.1), (Kd.freshB (g := gb448) (o := .cells #[.slice Ao9 t441.length co9, u449001] 26 (0, 0)) (aG_ BK448.out) k_ hk_.1), (IsS66.fresh ab15_ k_ hk_.1)⟩)) (keep_size (w := w) (g := g) (row := none) ab8_))
     have HE2 := am (Kd.N_lower (Kd.N_mono (ok' := fun k_ => ((w.heap.size ≤ k_) ∧ some k_ ≠ (v466 : Value).ownBlock ∧ some k_ ≠ (v469 : Value).ownBlock ∧ some k_ ≠ (.slice Ao9 t441.length co9 : Value).ownBlock ∧ some k_ ≠ (u449001 : Value).ownBlock ∧ k_ ≠ gb440 ∧ k_ ≠ gb448 ∧ k_ ≠ g) ∧ w30.heap.size ≤ k_) ho2 (fun k_ hk_ => ⟨⟨(Nat.le_trans (keep_size (w := w) (g := g) (row := none) ab8_) hk_.1), hk_.2.1, hk_.2.2, (Kd.fresh' (Kd.R_lt (aR_ HO_449000.out)) k_ hk_.1), (Kd.fresh' (Kd.N_lt (aN_ HO_449001.out)) k_ hk_.1), (Kd.freshB (g := gb440) (o := .cells #[.slice none 0 0, .slice none 0 0] 26 (0, 0)) (aG_ BK440.out) k_ hk_.1), (Kd.freshB (g := gb448) (o := .cells #[.slice Ao9 t441.length co9, u449001] 26 (0, 0)) (aG_ BK448.out) k_ hk_.1), (IsS66.fresh ab15_ k_ hk_.1)⟩, hk_.1⟩)) (keep_size (w := w) (g := g) (row := none) ab8_))
     have n7_ := am (KeepBut.trans ab8_ hk (.inl rfl))
     have n8_ := am (hb)
     have n9_ := am (hi)
     clear HO_449000
     clear HO_449001
     clear BK440
     clear BK448
     clear HK
     clear HB
     clear HI0
     have HO_449000 := n0_
     have HO_449001 := n1_
     have BK440 := n2_
     have BK448 := n3_
     have HO467 := n4_
     have HO470 := n5_
     have HO473 := n6_
     have HK := n7_
     have HB := n8_
     have HI0 := n9_
     clear n0_ n1_ n2_ n3_ n4_ n5_ n6_ n7_ n8_ n9_
     (try clear hb)
     (try clear hb2)
     (try clear hk)
     (try clear hi)
     (try clear ho0)
     (try clear ho1)
     (try clear ho2)
     obtain ⟨Ao32, co32, eo32⟩ := Kd.N_slice HO467.out
     (first | subst eo32 | (injection eo32 with f1_ f2_ f3_; have f4_ := f1_.symm; have f5_ := f3_.symm; clear f1_ f2_ f3_; subst f4_; subst f5_))
     obtain ⟨Ao33, co33, eo33⟩ := Kd.N_slice HO470.out
     (first | subst eo33 | (injection eo33 with f1_ f2_ f3_; have f4_ := f1_.symm; have f5_ := f3_.symm; clear f1_ f2_ f3_; subst f4_; subst f5_))
     obtain ⟨Ao34, co34, eo34⟩ := Kd.N_slice HO473.out
     (first | subst eo34 | (injection eo34 with f1_ f2_ f3_; have f4_ := f1_.symm; have f5_ := f3_.symm; clear f1_ f2_ f3_; subst f4_; subst f5_))
     refine hK.out _ _ ⟨(blk_cell BK448.out 0).trans rfl, (blk_cell BK448.out 1).trans rfl⟩ (fun hHeld => ?_)
     clear hK K
     refine norm_ (a' := ?_) ?_ ?_
     rotate_left
     ·show Act.put _ (some 34) _ = _
      simp only [Act.put, List.setIfInBounds_toArray, List.set_cons_zero, List.set_cons_succ, i64_w, i32_w]
      rfl
     refine one_ (i := 4) (N := some 35) #[true, true, true, true, true, false, false] rfl rfl (by kernel_rfl) (by decide) (fun K hK => ?_)
     refine Kd.N_lit_step k37 _ 37 ?hg (N' := 35) ?hd (xs := ([(⟨t460, t461, t462, (⟨t463, t464, t465⟩ : S34), t468, t471⟩ : S37)] : List (S37))) (inner := [.int .i64 t460, .int .i64 t461, .int .i64 t462, .int .i64 t463, .int .i64 t464, .slice Ao32 t465.length co32, .slice Ao33 t468.length co33, .slice Ao34 t471.length co34]) (ok := (fun k_ => ((w.heap.size ≤ k_) ∧ some k_ ≠ (.slice Ao9 t441.length co9 : Value).ownBlock ∧ some k_ ≠ (u449001 : Value).ownBlock ∧ k_ ≠ gb440 ∧ k_ ≠ gb448 ∧ k_ ≠ g) ∧ w30.heap.size ≤ k_)) (okp := (fun k_ => ((w.heap.size ≤ k_) ∧ some k_ ≠ (.slice Ao9 t441.length co9 : Value).ownBlock ∧ some k_ ≠ (u449001 : Value).ownBlock ∧ k_ ≠ gb440 ∧ k_ ≠ gb448 ∧ k_ ≠ g) ∧ w30.heap.size ≤ k_)) ?hr ?hp (fun _ hk => hk) ⟨((show ∀ k_, w31.heap.size ≤ k_ → (fun k_ => (w.heap.size ≤ k_) ∧ some k_ ≠ (.slice Ao9 t441.length co9 : Value).ownBlock ∧ some k_ ≠ (u449001 : Value).ownBlock ∧ k_ ≠ gb440 ∧ k_ ≠ gb448 ∧ k_ ≠ g) k_ from fun k_ hk => ⟨(Nat.le_trans (keep_size (w := w) (g := g) (row := none) ab8_) hk), Kd.fresh' (Kd.R_lt (aR_ HO_449000.out)) k_ hk, Kd.fresh' (Kd.N_lt (aN_ HO_449001.out)) k_ hk, Kd.freshB (g := gb440) (o := .cells #[.slice none 0 0, .slice none 0 0] 26 (0, 0)) (aG_ BK440.out) k_ hk, Kd.freshB (g := gb448) (o := .cells #[.slice Ao9 t441.length co9, u449001] 26 (0, 0)) (aG_ BK448.out) k_ hk, IsS66.fresh ab15_ k_ hk⟩) _ (Nat.le_refl _)), HS.out⟩ (Below.refl _ _) (Nat.le_refl _) (by simp) ?_; (case hd => rfl); (case hg => rfl); (case hr => first | (go_simp; done) | (go_simp; rfl)); (case hp => exact (Reps.c8 (show Kd.FK k37 _ _ (⟨t460, t461, t462, (⟨t463, t464, t465⟩ : S34), t468, t471⟩ : S37) [.int .i64 t460, .int .i64 t461, .int .i64 t462, .int .i64 t463, .int .i64 t464, .slice Ao32 t465.length co32, .slice Ao33 t468.length co33, .slice Ao34 t471.length co34] from (k37_mkF _ _ (⟨t460, t461, t462, (⟨t463, t464, t465⟩ : S34), t468, t471⟩ : S37) (Kd.N_reads' (Kd.N_mono (ok' := (fun k_ => ((w.heap.size ≤ k_) ∧ some k_ ≠ (.slice Ao9 t441.length co9 : Value).ownBlock ∧ some k_ ≠ (u449001 : Value).ownBlock ∧ k_ ≠ gb440 ∧ k_ ≠ gb448 ∧ k_ ≠ g) ∧ w30.heap.size ≤ k_)) (HE0.out) (fun k_ hk => ⟨⟨hk.1.1, ⟨hk.1.2.2.2.1, ⟨hk.1.2.2.2.2.1, ⟨hk.1.2.2.2.2.2.1, ⟨hk.1.2.2.2.2.2.2.1, hk.1.2.2.2.2.2.2.2⟩⟩⟩⟩⟩, hk.2⟩))).2.1 (Kd.N_F (Kd.N_mono (ok' := (fun k_ => ((w.heap.size ≤ k_) ∧ some k_ ≠ (.slice Ao9 t441.length co9 : Value).ownBlock ∧ some k_ ≠ (u449001 : Value).ownBlock ∧ k_ ≠ gb440 ∧ k_ ≠ gb448 ∧ k_ ≠ g) ∧ w30.heap.size ≤ k_)) (HE0.out) (fun k_ hk => ⟨⟨hk.1.1, ⟨hk.1.2.2.2.1, ⟨hk.1.2.2.2.2.1, ⟨hk.1.2.2.2.2.2.1, ⟨hk.1.2.2.2.2.2.2.1, hk.1.2.2.2.2.2.2.2⟩⟩⟩⟩⟩, hk.2⟩))) (Kd.N_reads' (Kd.N_mono (ok' := (fun k_ => ((w.heap.size ≤ k_) ∧ some k_ ≠ (.slice Ao9 t441.length co9 : Value).ownBlock ∧ some k_ ≠ (u449001 : Value).ownBlock ∧ k_ ≠ gb440 ∧ k_ ≠ gb448 ∧ k_ ≠ g) ∧ w30.heap.size ≤ k_)) (HE1.out) (fun k_ hk => ⟨⟨hk.1.1, ⟨hk.1.2.2.2.1, ⟨hk.1.2.2.2.2.1, ⟨hk.1.2.2.2.2.2.1, ⟨hk.1.2.2.2.2.2.2.1, hk.1.2.2.2.2.2.2.2⟩⟩⟩⟩⟩, hk.2⟩))).2.1 (Kd.N_F (Kd.N_mono (ok' := (fun k_ => ((w.heap.size ≤ k_) ∧ some k_ ≠ (.slice Ao9 t441.length co9 : Value).ownBlock ∧ some k_ ≠ (u449001 : Value).ownBlock ∧ k_ ≠ gb440 ∧ k_ ≠ gb448 ∧ k_ ≠ g) ∧ w30.heap.size ≤ k_)) (HE1.out) (fun k_ hk => ⟨⟨hk.1.1, ⟨hk.1.2.2.2.1, ⟨hk.1.2.2.2.2.1, ⟨hk.1.2.2.2.2.2.1, ⟨hk.1.2.2.2.2.2.2.1, hk.1.2.2.2.2.2.2.2⟩⟩⟩⟩⟩, hk.2⟩))) (Kd.N_reads' (Kd.N_mono (ok' := (fun k_ => ((w.heap.size ≤ k_) ∧ some k_ ≠ (.slice Ao9 t441.length co9 : Value).ownBlock ∧ some k_ ≠ (u449001 : Value).ownBlock ∧ k_ ≠ gb440 ∧ k_ ≠ gb448 ∧ k_ ≠ g) ∧ w30.heap.size ≤ k_)) (HE2.out) (fun k_ hk => ⟨⟨hk.1.1, ⟨hk.1.2.2.2.1, ⟨hk.1.2.2.2.2.1, ⟨hk.1.2.2.2.2.2.1, ⟨hk.1.2.2.2.2.2.2.1, hk.1.2.2.2.2.2.2.2⟩⟩⟩⟩⟩, hk.2⟩))).2.1 (Kd.N_F (Kd.N_mono (ok' := (fun k_ => ((w.heap.size ≤ k_) ∧ some k_ ≠ (.slice Ao9 t441.length co9 : Value).ownBlock ∧ some k_ ≠ (u449001 : Value).ownBlock ∧ k_ ≠ gb440 ∧ k_ ≠ gb448 ∧ k_ ≠ g) ∧ w30.heap.size ≤ k_)) (HE2.out) (fun k_ hk => ⟨⟨hk.1.1, ⟨hk.1.2.2.2.1, ⟨hk.1.2.2.2.2.1, ⟨hk.1.2.2.2.2.2.1, ⟨hk.1.2.2.2.2.2.2.1, hk.1.2.2.2.2.2.2.2⟩⟩⟩⟩⟩, hk.2⟩))))) (Reps.none _ _)))
     intro v476 w35 ho36 hb hg_ hnew_
     clear hg_ hnew_
     (first | rw [← Ny475.out] at ho36 | (simp only [Int.reduceToNat] at ho36; rw [← Ny475.out] at ho36))
     have n0_ := am (Kd.R_below (aR_ HO_449000.out) hb)
     have n1_ := am (Kd.N_elder' (aN_ HO_449001.out) (Kd.N_base ho36) hb)
     have nT_ := am (TF_below HT.out hb)
     clear HT
     have HT := nT_
     clear nT_
     have HP := am (Kd.N_lower ho36 (keep_size (w := w) (g := g) (row := none) ab8_))
     have n2_ := am (Kd.N_lower (Kd.N_mono (ok' := fun k_ => (w.heap.size ≤ k_) ∧ some k_ ≠ (.slice Ao9 t441.length co9 : Value).ownBlock ∧ some k_ ≠ (u449001 : Value).ownBlock ∧ k_ ≠ gb440 ∧ k_ ≠ gb448 ∧ k_ ≠ g) ho36 (fun _ h_ => h_.1)) (keep_size (w := w) (g := g) (row := none) ab8_))
     have n3_ := am (blk_below (g := gb440) (o := .cells #[.slice none 0 0, .slice none 0 0] 26 (0, 0)) (aG_ BK440.out) hb)
     have n4_ := am (blk_below (g := gb448) (o := .cells #[.slice Ao9 t441.length co9, u449001] 26 (0, 0)) (aG_ BK448.out) hb)
     have n5_ := am (IsS66.below ab15_ hb)
     have n6_ := am (KeepBut.trans ab8_ (KeepBut.of_below hb g none) (.inl rfl))
     have n7_ := am (below_step ab41_ hb)
     clear HO_449000
     clear HO_449001
     clear BK440
     clear BK448
     clear HI0
     clear HK
     clear HB
     clear HO467
     clear HO470
     clear HO473
     have HO_449000 := n0_
     have HO_449001 := n1_
     have HO477 := n2_
     have BK440 := n3_
     have BK448 := n4_
     have HI0 := n5_
     have HK := n6_
     have HB := n7_
     clear n0_ n1_ n2_ n3_ n4_ n5_ n6_ n7_
     clear hb ho36
     obtain ⟨Aq_, cq_, rfl⟩ := Kd.N_slice HO477.out
     have p28 : 0 ≤ (0 : Int) := (by omega)
     have q28 : (0 : Int) < ((x449001_1.length : Int) : Int) := of_decide_eq_true (by first | (with_reducible assumption) | assumption)
     have qi28 : (0 < x449001_1.length) = True := eq_true (by omega)
     obtain ⟨go28, co28, eo28, gb28, gl28, cl28, HG28⟩ := Kd.N_form HO_449001.out (by omega)
     (first | cases eo28 | (injection eo28 with ea_ en_ ec_; (first | subst ea_ | (injection ea_ with ea_; subst ea_)); subst ec_; clear en_))
     have GB28 := am gb28
     have GG28 := am HG28
     clear gb28 gl28 HG28
     obtain ⟨ce28, hcl28, hM28, hcc28, hfr28⟩ := Kd.N_elem HO_449001.out [] (0 : Int) p28 q28
     obtain ⟨ua28_0, uc28_0, rfl, ul28_0, ge28_0⟩ := Kd.FK_slice_open hM28
     have hx28_0 := hcc28 0 _ rfl
     have hf28_0 := hfr28 0
     (try simp only [show ((Kd.slice 37 k37)).sz = 1 from rfl, Nat.mul_one, Nat.add_zero] at hx28_0)
     (try simp only [show ((Kd.slice 37 k37)).sz = 1 from rfl, Nat.mul_one, Nat.add_zero] at hf28_0)
     clear hcl28 hcc28 hfr28 hM28
     (try rw [show ((0 : Int)).toNat = 0 from rfl] at hx28_0)
     (try simp only [Nat.reduceMul, Nat.zero_mul, Nat.zero_add, Nat.reduceAdd] at hx28_0)
     (try rw [show ((0 : Int)).toNat = 0 from rfl] at hf28_0)
     (try simp only [Nat.reduceMul, Nat.zero_mul, Nat.zero_add, Nat.reduceAdd] at hf28_0)
     replace p28 := eq_true p28
     replace q28 := eq_true q28
     have HN0_go28 := am (show g ≠ go28 from by have h_ := IsS66.own_neN HI0.out HO_449001.out (by decide); intro e_; exact h_ (by rw [e_]; rfl))
     have HX37 := am (show Kd.N (Kd.slice 37 k37) 31 _ w.heap.size (fun k_ => (w.heap.size ≤ k_) ∧ some k_ ≠ (.slice Ao9 t441.length co9 : Value).ownBlock ∧ some k_ ≠ ((.slice Aq_ y475.length cq_) : Value).ownBlock ∧ k_ ≠ gb440 ∧ k_ ≠ gb448 ∧ k_ ≠ g) (.slice (some ⟨go28, 0, none⟩) x449001_1.length co28) x449001_1 from (Kd.N_mono (HO_449001.out) (fun k_ hk => ⟨hk.1.1.1.1.1, ⟨hk.1.1.1.1.2.1, ⟨hk.2, ⟨hk.1.1.1.1.2.2.1, ⟨hk.1.1.1.1.2.2.2.1, hk.1.1.1.1.2.2.2.2⟩⟩⟩⟩⟩)))
     replace HX37 := am (show Kd.N (Kd.slice 37 k37) 31 _ w.heap.size (fun k_ => (w.heap.size ≤ k_) ∧ some k_ ≠ (.slice Ao9 t441.length co9 : Value).ownBlock ∧ k_ ≠ gb440 ∧ k_ ≠ gb448 ∧ k_ ≠ g) (.slice (some ⟨go28, 0, none⟩) x449001_1.length co28) x449001_1 from Kd.N_mono HX37.out (fun k_ hk => ⟨hk.1, ⟨hk.2.1, ⟨hk.2.2.2.1, ⟨hk.2.2.2.2.1, hk.2.2.2.2.2⟩⟩⟩⟩))
     obtain ⟨ce37, hcl37, hM37, hcc37, hfr37⟩ := Kd.N_elem HX37.out [] (0 : Int) (by omega) (by have h_ : (0 : Int) < ((x449001_1.length : Int) : Int) := of_decide_eq_true (by first | (with_reducible assumption) | assumption); first | exact h_ | (have e_ := (Kd.N_reads' HO_449001.out).1; omega) | simpa using h_)
     obtain ⟨ua37_0, uc37_0, rfl, ul37_0, ge37_0⟩ := Kd.FK_slice_open hM37
     have HP37 := (Kd.N_seg HX37.out (0 : Int) (by omega) (by have h_ : (0 : Int) < ((x449001_1.length : Int) : Int) := of_decide_eq_true (by first | (with_reducible assumption) | assumption); first | exact h_ | (have e_ := (Kd.N_reads' HO_449001.out).1; omega) | simpa using h_) (seg := [(.slice Aq_ y475.length cq_)]) (j := 0) hcl37 hcc37 (show 1 ≤ 1 from by decide) (x' := y475) (Kd.FK_slice_mk (Kd.N_reads' (Kd.N_mono (ok' := (fun k_ => ((fun k_ => (w.heap.size ≤ k_) ∧ some k_ ≠ (.slice Ao9 t441.length co9 : Value).ownBlock ∧ k_ ≠ gb440 ∧ k_ ≠ gb448 ∧ k_ ≠ g)) k_ ∧ k_ ≠ go28)) (HO477.out) (fun k_ hk => ⟨⟨hk.1, ⟨hk.2.1, ⟨hk.2.2.2.1, ⟨hk.2.2.2.2.1, hk.2.2.2.2.2⟩⟩⟩⟩, fun e_ => (hk.2.2.1) (by rw [e_]; rfl)⟩))).2.1 (Kd.N_F (Kd.N_mono (ok' := (fun k_ => ((fun k_ => (w.heap.size ≤ k_) ∧ some k_ ≠ (.slice Ao9 t441.length co9 : Value).ownBlock ∧ k_ ≠ gb440 ∧ k_ ≠ gb448 ∧ k_ ≠ g)) k_ ∧ k_ ≠ go28)) (HO477.out) (fun k_ hk => ⟨⟨hk.1, ⟨hk.2.1, ⟨hk.2.2.2.1, ⟨hk.2.2.2.2.1, hk.2.2.2.2.2⟩⟩⟩⟩, fun e_ => (hk.2.2.1) (by rw [e_]; rfl)⟩)))) (fun _ hk => hk)).1
     (try simp only [show ((Kd.slice 37 k37)).sz = 1 from rfl, Nat.mul_one, Nat.add_zero] at HP37)
     rw [← Ny478.out] at HP37
     have HTq := TF_seg (ok := (fun k_ => (w.heap.size ≤ k_) ∧ some k_ ≠ ((.slice Ao9 t441.length co9) : Value).ownBlock ∧ k_ ≠ gb440 ∧ k_ ≠ gb448 ∧ k_ ≠ g)) HT.out (by have h_ : (0 : Int) < ((x449001_1.length : Int) : Int) := of_decide_eq_true (by first | (with_reducible assumption) | assumption); omega) HP.out (by exact fun k_ hk => ⟨⟨hk.1.1, hk.1.2.1, hk.1.2.2.2.1, hk.1.2.2.2.2.1, hk.1.2.2.2.2.2⟩, fun e_ => (hk.1.2.2.1) (by rw [e_]; rfl)⟩) (by exact fun _ hk => hk.1) (by exact fun _ h0 _ h1 => absurd h1.2 (Nat.not_le.mpr h0.2))
     rw [← Ny478.out] at HTq
     have HTQ := am HTq
     clear HTq HT HP
     have HQ37 := am HP37
     clear hcl37 hcc37 hfr37 hM37 HP37
     refine hK.out _ _ ⟨(blk_cell BK448.out 0).trans rfl, (blk_cell BK448.out 1).trans rfl⟩ (fun hHeld => ?_)
     clear hK K
     refine norm_ (a' := ?_) ?_ ?_
     rotate_left
     ·show Act.put _ (some 35) _ = _
      simp only [Act.put, List.setIfInBounds_toArray, List.set_cons_zero, List.set_cons_succ, i64_w, i32_w]
      rfl
     refine pure_ (i := 5) (N := some 36) (v := ?_) (a' := ?_) #[true, true, true, true, true, true, false] rfl rfl (by kernel_rfl) (fun _ _ _ h => h) (Or.inl ⟨by rfl, ?_⟩) ?_ ?_
     rotate_left
     ·intro w'
      go_simp
      with_reducible rfl
     rotate_left
     ·simp only [Act.put, List.setIfInBounds_toArray, List.set_cons_zero, List.set_cons_succ, i64_w, i32_w]
      rfl
     refine last_ (i := 6) (N := none) #[true, true, true, true, true, true, true] rfl rfl (by kernel_rfl) (by decide) (fun K hK => ?_)
     refine skip_ (w1 := ?_) (by rfl) rfl ?_ ?_
     rotate_left
     ·go_simp
      rfl
     refine hK.out _ _ ?_
     clear hK K
     refine done_ (by kernel_rfl) ?_
     have n0_ : Aside0 (Kd.R (Kd.int .i64) 3 (w35.setCell ⟨go28, 0, none⟩ (.slice Aq_ y475.length cq_)) w.heap.size (fun k_ => (w.heap.size ≤ k_)) (.slice Ao9 t441.length co9) t441) := ⟨by (with_reducible repeat (first | apply Kd.R_alloc | apply Kd.R_drewN | apply Kd.R_drew)); exact Kd.R_mono (Kd.R_far (p := ⟨go28, 0, none⟩) (Kd.R_types HO_449000.out GG28.out (by decide)) (fun _ hk => hk.2) (.slice Aq_ y475.length cq_)) (fun _ hk => hk.1)⟩
     have n1_ : Aside0 (Kd.N (Kd.slice 37 k37) 31 (w35.setCell ⟨go28, 0, none⟩ (.slice Aq_ y475.length cq_)) w.heap.size (fun k_ => (w.heap.size ≤ k_) ∧ some k_ ≠ (.slice Ao9 t441.length co9 : Value).ownBlock ∧ k_ ≠ gb440 ∧ k_ ≠ gb448 ∧ k_ ≠ g) (.slice (some ⟨go28, 0, none⟩) x449001_1.length co28) y478) := ⟨by (with_reducible repeat (first | apply Kd.N_alloc | apply Kd.N_drewN | apply Kd.N_drew)); exact HQ37.out⟩
     have nT_ : Aside0 (TF (w35.setCell ⟨go28, 0, none⟩ (.slice Aq_ y475.length cq_)) w.heap.size (fun k_ => (w.heap.size ≤ k_) ∧ some k_ ≠ (.slice Ao9 t441.length co9 : Value).ownBlock ∧ k_ ≠ gb440 ∧ k_ ≠ gb448 ∧ k_ ≠ g) (.slice (some ⟨go28, 0, none⟩) x449001_1.length co28) y478) := ⟨HTQ.out⟩
     have n2_ : Aside0 ((w35.setCell ⟨go28, 0, none⟩ (.slice Aq_ y475.length cq_)).heap[gb440]? = some (.cells #[.slice none 0 0, .slice none 0 0] 26 (0, 0))) := ⟨by (with_reducible repeat (first | refine blk_drewN ?_ _ | refine blk_drew ?_ | refine blk_alloc ?_ _)); refine blk_far ?_ (by have h_ := Kd.N_away HX37.out (fun _ hk => hk.2.2.1); intro e_; exact h_ (by rw [e_]; rfl)) _; (with_reducible repeat (first | refine blk_drewN ?_ _ | refine blk_drew ?_ | refine blk_alloc ?_ _)); exact BK440.out⟩
     have n3_ : Aside0 ((w35.setCell ⟨go28, 0, none⟩ (.slice Aq_ y475.length cq_)).heap[gb448]? = some (.cells #[.slice Ao9 t441.length co9, .slice (some ⟨go28, 0, none⟩) x449001_1.length co28] 26 (0, 0))) := ⟨by (with_reducible repeat (first | refine blk_drewN ?_ _ | refine blk_drew ?_ | refine blk_alloc ?_ _)); refine blk_far ?_ (by have h_ := Kd.N_away HX37.out (fun _ hk => hk.2.2.2.1); intro e_; exact h_ (by rw [e_]; rfl)) _; (with_reducible repeat (first | refine blk_drewN ?_ _ | refine blk_drew ?_ | refine blk_alloc ?_ _)); exact BK448.out⟩
     have n4_ : Aside0 (IsS66 w0 (w35.setCell ⟨go28, 0, none⟩ (.slice Aq_ y475.length cq_)) g s0_0 t474) := ⟨by repeat (first | (with_reducible first | exact HI0.out | apply IsS66.alloc | apply IsS66.drewN | apply IsS66.drew | apply IsS66.set_1 | refine IsS66.far ?_ HN0_go28.out _ | refine IsS66.far ?_ NB0_440.out _ | refine IsS66.far ?_ NB0_448.out _) | exact HI0.out)⟩
     have n5_ : Aside0 (KeepBut w (w35.setCell ⟨go28, 0, none⟩ (.slice Aq_ y475.length cq_)) g none) := ⟨by repeat (first | (with_reducible first | exact HK.out | apply KeepBut.set_ | apply keep_drewN | apply keep_drew | apply keep_alloc | refine keep_far ?_ GB28.out _ | refine keep_far ?_ GW440.out _ | refine keep_far ?_ GW448.out _) | exact HK.out)⟩
     have n6_ : Aside0 (Below w0.heap.size w0 (w35.setCell ⟨go28, 0, none⟩ (.slice Aq_ y475.length cq_))) := ⟨by repeat (first | (with_reducible first | exact HB.out | apply below_alloc | apply pw_below_drewN | apply below_drew1 | refine below_set ?_ (Nat.le_trans HL.out GB28.out) | refine below_set ?_ (IsS66.ge HI0.out) | refine below_set ?_ GE440.out | refine below_set ?_ GE448.out) | exact HB.out)⟩
     (try clear HO_449000)
     (try clear HO_449001)
     (try clear BK440)
     (try clear BK448)
     (try clear HI0)
     (try clear HK)
     (try clear HB)
     generalize (w35.setCell ⟨go28, 0, none⟩ (.slice Aq_ y475.length cq_)) = w38 at nT_ n0_ n1_ n2_ n3_ n4_ n5_ n6_ ⊢
     have HT := nT_
     clear nT_
     have HO_449000 := n0_
     have HO_449001 := n1_
     have BK440 := n2_
     have BK448 := n3_
     have HI0 := n4_
     have HK := n5_
     have HB := n6_
     clear n0_ n1_ n2_ n3_ n4_ n5_ n6_
     have hnb39 := NB448_440.out
     have hnc39 := NB440_448.out
     have hnb40 := NB448_0.out
     have hnc40 := NB0_448.out
     obtain ⟨hcz41_0, hcz41_1, hfz41_0, hfz41_1⟩ := bcf2_ BK448.out
     have hnb42 := NB440_0.out
     have hnc42 := NB0_440.out
     obtain ⟨hcz43_0, hcz43_1, hfz43_0, hfz43_1⟩ := bcf2_ BK440.out
     try go_wp2
     refine bodyPost_ret (results_cell_row rfl _ _ gb440 26 #[.slice Ao9 t441.length co9, .slice (some ⟨go28, 0, none⟩) x449001_1.length co28] (0, 0) _ rfl (by (with_reducible repeat (first | refine blk_drewN ?_ _ | refine blk_drew ?_ | refine blk_alloc ?_ _)); refine blk_put (cs := #[.slice Ao9 t441.length co9, .slice none 0 0]) ?_ 1 _ rfl; (with_reducible repeat (first | refine blk_drewN ?_ _ | refine blk_drew ?_ | refine blk_alloc ?_ _)); refine blk_put (cs := #[.slice none 0 0, .slice none 0 0]) ?_ 0 _ rfl; (with_reducible repeat (first | refine blk_drewN ?_ _ | refine blk_drew ?_ | refine blk_alloc ?_ _)); exact BK440.out) Try.underlying26 rfl (by kernel_rfl)) rfl ?_
     exact ⟨_, _, ab14_, by (with_reducible repeat (first | apply Kd.R_alloc | apply Kd.R_drewN | apply Kd.R_drew)); exact Kd.R_mono (Kd.R_far (p := ⟨gb440, 1, none⟩) (Kd.R_far (p := ⟨gb440, 0, none⟩) (Kd.R_types HO_449000.out BK440.out (by decide)) (fun _ hk => hk.2) (.slice Ao9 t441.length co9)) (fun _ hk => hk.2) (.slice (some ⟨go28, 0, none⟩) x449001_1.length co28)) (fun _ hk => hk.1), by (with_reducible repeat (first | apply TF_alloc | apply TF_drewN | apply TF_drew)); exact TF_mono (TF_far (p := ⟨gb440, 1, none⟩) (TF_far (p := ⟨gb440, 0, none⟩) (TF_mono HT.out (fun k_ hk => (⟨hk, hk.2.2.1⟩ : _ ∧ k_ ≠ gb440))) (fun _ hk => hk.2) (.slice Ao9 t441.length co9)) (fun _ hk => hk.2) (.slice (some ⟨go28, 0, none⟩) x449001_1.length co28)) (fun _ hk => ⟨hk.1.1, hk.1.2.1⟩), ab15_, ab41_, ab8_⟩
    rw [if_neg c27] at H
    exact absurd H (by simp)
   rw [if_neg c25] at H
   have c25b0 : (t458 == 0) = false := beq_eq_false_iff_ne.mpr c25
   have c25b1 : (t458 != 0) = true := bne_iff_ne.mpr c25
   simp only [Option.some.injEq, Prod.mk.injEq] at H
   obtain ⟨rfl, rfl, rfl⟩ := H
   go_wp2_with (first | ((with_reducible refine gate_callee (f := 50) rfl ?_); refine goesL_ (some 29) rfl rfl Try.func50 (by kernel_rfl) rfl #[.pointer (some ⟨g, 0, none⟩), .int .i64 16] rfl ab1_ ?_; (with_reducible refine (spec_l6Rd_pick.calls k1 g s0_0 x1001_1 16 t458 t459 w0 _ ?side1 ?side2 A24.out).mono ?_); (case side1 => exact ab15_); (case side2 => exact ab41_); rintro e w44 ⟨rfl, hi, hb, hk⟩; refine ⟨_, rfl, ?_⟩; have n0_ := am (Kd.R_mono (Kd.R_keep (IsS66.apart (show IsS66 w0 _ g s0_0 x1001_1 from by repeat (first | (with_reducible first | exact HI0.out | apply IsS66.alloc | apply IsS66.drewN | apply IsS66.drew | apply IsS66.set_1 | refine IsS66.far ?_ NB0_440.out _ | refine IsS66.far ?_ NB0_448.out _) | exact HI0.out)) (aR_ HO_449000.out) (by decide)) hk (fun _ h => h.2)) (fun _ h => h.1)); have n1_ := am (Kd.N_mono (Kd.N_keep (Kd.N_mono (ok := fun k_ => (((w.heap.size ≤ k_)) ∧ (some k_ ≠ (.slice Ao9 t441.length co9 : Value).ownBlock ∧ (k_ ≠ gb440 ∧ (k_ ≠ gb448 ∧ k_ ≠ g))))) (aN_ HO_449001.out) (fun k_ hk_ => (⟨hk_, hk_.2.2.2.2⟩ : _ ∧ k_ ≠ g))) hk (fun _ h => h.2)) (fun _ h => h.1)); have nT_ := am (TF_mono (TF_keep (TF_mono (ok := fun k_ => (((w.heap.size ≤ k_)) ∧ (some k_ ≠ (.slice Ao9 t441.length co9 : Value).ownBlock ∧ (k_ ≠ gb440 ∧ (k_ ≠ gb448 ∧ k_ ≠ g))))) (by (with_reducible repeat (first | apply TF_alloc | apply TF_drewN | apply TF_drew)); exact HT.out) (fun k_ hk_ => (⟨hk_, hk_.2.2.2.2⟩ : _ ∧ k_ ≠ g))) hk (fun _ h => h.2)) (fun _ h => h.1)); clear HT; have HT := nT_; clear nT_; have n2_ := am (KeepBut.blk hk (g' := gb440) (o := .cells #[.slice none 0 0, .slice none 0 0] 26 (0, 0)) (aG_ BK440.out) NB440_0.out (by simp)); have n3_ := am (KeepBut.blk hk (g' := gb448) (o := .cells #[.slice Ao9 t441.length co9, u449001] 26 (0, 0)) (aG_ BK448.out) NB448_0.out (by simp)); have n4_ := am (KeepBut.trans ab8_ hk (.inl rfl)); have n5_ := am (hb); have n6_ := am (hi); clear HO_449000 HO_449001 BK440 BK448 HK HB HI0; have HO_449000 := n0_; have HO_449001 := n1_; have BK440 := n2_; have BK448 := n3_; have HK := n4_; have HB := n5_; have HI0 := n6_; clear n0_ n1_ n2_ n3_ n4_ n5_ n6_; (try clear hb); (try clear hb2); (try clear hk); (try clear hi); have hnb45 := NB448_440.out; have hnc45 := NB440_448.out; have hnb46 := NB448_0.out; have hnc46 := NB0_448.out; obtain ⟨hcz47_0, hcz47_1, hfz47_0, hfz47_1⟩ := bcf2_ BK448.out; have hnb48 := NB440_0.out; have hnc48 := NB0_440.out; obtain ⟨hcz49_0, hcz49_1, hfz49_0, hfz49_1⟩ := bcf2_ BK440.out; obtain ⟨Ao50, co50, eo50⟩ := Kd.N_slice HO_449001.out; subst eo50))
   refine bodyPost_ret (results_cell_row rfl _ _ gb440 26 #[.slice Ao9 t441.length co9, .slice Ao50 x449001_1.length co50] (0, 0) _ rfl (by (with_reducible repeat (first | refine blk_drewN ?_ _ | refine blk_drew ?_ | refine blk_alloc ?_ _)); refine blk_put (cs := #[.slice Ao9 t441.length co9, .slice none 0 0]) ?_ 1 _ rfl; (with_reducible repeat (first | refine blk_drewN ?_ _ | refine blk_drew ?_ | refine blk_alloc ?_ _)); refine blk_put (cs := #[.slice none 0 0, .slice none 0 0]) ?_ 0 _ rfl; (with_reducible repeat (first | refine blk_drewN ?_ _ | refine blk_drew ?_ | refine blk_alloc ?_ _)); exact BK440.out) Try.underlying26 rfl (by kernel_rfl)) rfl ?_
   exact ⟨_, _, ab14_, by (with_reducible repeat (first | apply Kd.R_alloc | apply Kd.R_drewN | apply Kd.R_drew)); exact Kd.R_mono (Kd.R_far (p := ⟨gb440, 1, none⟩) (Kd.R_far (p := ⟨gb440, 0, none⟩) (Kd.R_types HO_449000.out BK440.out (by decide)) (fun _ hk => hk.2) (.slice Ao9 t441.length co9)) (fun _ hk => hk.2) (.slice Ao50 x449001_1.length co50)) (fun _ hk => hk.1), by (with_reducible repeat (first | apply TF_alloc | apply TF_drewN | apply TF_drew)); exact TF_mono (TF_far (p := ⟨gb440, 1, none⟩) (TF_far (p := ⟨gb440, 0, none⟩) (TF_mono HT.out (fun k_ hk => (⟨hk, hk.2.2.1⟩ : _ ∧ k_ ≠ gb440))) (fun _ hk => hk.2) (.slice Ao9 t441.length co9)) (fun _ hk => hk.2) (.slice Ao50 x449001_1.length co50)) (fun _ hk => ⟨hk.1.1, hk.1.2.1⟩), ab15_, ab41_, ab8_⟩
theorem spec_l92Program.calls (k : Nat) (g : Nat) (s0_0 : List Int) (s0_1 : Int) (r1 : List Int) (r2 : List (List (S37))) (r3 : Int) (w0 w : World) (hI : IsS66 w0 w g s0_0 s0_1) (hB : Below w0.heap.size w0 w) (h : spec_l92Program.f k s0_0 s0_1 = some (r1, r2, r3)) :
  Calls Try.prog 49 #[.pointer (some ⟨g, 0, none⟩)] w fun e w' => ∃ v0_ v1_ : Value, e = .returned (.agg #[v0_, v1_]) ∧ Kd.R (Kd.int .i64) 3 w' w.heap.size (fun k_ => (w.heap.size ≤ k_)) v0_ r1 ∧ Kd.N (Kd.slice 37 k37) 31 w' w.heap.size (fun k_ => (w.heap.size ≤ k_) ∧ some k_ ≠ (v0_ : Value).ownBlock) v1_ r2 ∧ IsS66 w0 w' g s0_0 r3 ∧ Below w0.heap.size w0 w' ∧ KeepBut w w' g none :=
 (spec_l92Program.callsT k g s0_0 s0_1 r1 r2 r3 w0 w hI hB h).mono fun _ _ ⟨v0_, v1_, he, h0, h1, h2⟩ => ⟨v0_, v1_, he, h0, TF_N h1, h2⟩
theorem spec_l92Wrong.mono : ∀ a0 a1 k, LeO (spec_l92Wrong.f k a0 a1) (spec_l92Wrong.f (k + 1) a0 a1) := by
 intro a0 a1 k
 unfold spec_l92Wrong.f
 repeat' first
   | (with_reducible exact spec_l6Rd_pick.mono _ _ _ _)
   | (with_reducible exact spec_l91Leaf.mono _ _ _)
   | (with_reducible exact spec_l92Program.mono _ _ _)
   | (with_reducible exact LeO.refl _)
   | (with_reducible exact LeO.none _)
   | (with_reducible refine LeO.ite ?_ ?_)
   | (with_reducible refine LeO.bind ?_ (fun _ => ?_))
def spec_l92Wrong.T4 : Bool × List (List Nat × List Nat) := (true, [([], []), ([0], [0]), ([], []), ([], []), ([3], [3]), ([2, 4], [2, 4]), ([5], [5]), ([6], [6]), ([1, 7, 4], [1, 7]), ([0, 1, 2, 3, 4, 5, 6, 7, 8], []), ([9, 8, 8, 0, 1, 2, 3, 4, 5, 6, 7, 8], [8, 9])])
def spec_l92Wrong.B4 : List Nat := [0, 1, 0, 0, 8, 28, 60, 124, 255, 511, 1023]
theorem spec_l92Wrong.tab4 : rtab .any (opsOf Try.f29 4) = spec_l92Wrong.T4 := by kernel_rfl
theorem spec_l92Wrong.bits4 : waitsOk spec_l92Wrong.T4.2 spec_l92Wrong.B4 = true := by kernel_rfl
def spec_l92Wrong.T6 : Bool × List (List Nat × List Nat) := (true, [([], []), ([0], [0]), ([], []), ([2], [2]), ([3], [3]), ([], []), ([5], [5]), ([4, 6], [4, 6]), ([7], [7]), ([8], [8]), ([1, 9, 6], [1, 9]), ([0, 1, 2, 3, 4, 5, 6, 7, 8, 9, 10], []), ([11, 10, 10, 0, 1, 2, 3, 4, 5, 6, 7, 8, 9, 10], [10, 11])])
def spec_l92Wrong.B6 : List Nat := [0, 1, 0, 4, 12, 0, 32, 124, 252, 508, 1023, 2047, 4095]
theorem spec_l92Wrong.tab6 : rtab .any (opsOf Try.f29 6) = spec_l92Wrong.T6 := by kernel_rfl
theorem spec_l92Wrong.bits6 : waitsOk spec_l92Wrong.T6.2 spec_l92Wrong.B6 = true := by kernel_rfl
def spec_l92Wrong.T10 : Bool × List (List Nat × List Nat) := (true, [([], []), ([0], [0]), ([], []), ([2], [2]), ([3], [3]), ([4], [4]), ([], []), ([6], [6]), ([7], [7]), ([8], [8]), ([], []), ([10], [10]), ([11], [11]), ([12], [12]), ([5, 9, 13], [5, 9, 13]), ([1, 14], [1, 14]), ([0, 1, 2, 3, 4, 5, 6, 7, 8, 9, 10, 11, 12, 13, 14, 15], []), ([16, 15, 15, 0, 1, 2, 3, 4, 5, 6, 7, 8, 9, 10, 11, 12, 13, 14, 15], [15, 16])])
def spec_l92Wrong.B10 : List Nat := [0, 1, 0, 4, 12, 28, 0, 64, 192, 448, 0, 1024, 3072, 7168, 16380, 32767, 65535, 131071]
theorem spec_l92Wrong.tab10 : rtab .any (opsOf Try.f29 10) = spec_l92Wrong.T10 := by kernel_rfl
theorem spec_l92Wrong.bits10 : waitsOk spec_l92Wrong.T10.2 spec_l92Wrong.B10 = true := by kernel_rfl
theorem TF_elderB {w : World} {base : Nat} {ok : Nat → Prop} {v : Value} {ts : List (List S37)} (h : TF w base ok v ts) (a : Nat) (ha : w.heap.size ≤ a) : TF w base (fun k => ok k ∧ k ≠ a) v ts := TF_mono (TF_bound h) (fun k hk => ⟨hk.1, by have := hk.2; omega⟩)
theorem TF_lower {w : World} {base base' : Nat} {ok : Nat → Prop} {v : Value} {ts : List (List S37)} (h : TF w base ok v ts) (hb : base' ≤ base) : TF w base' ok v ts := by
 obtain ⟨h0, P, rows, hl, hR, he, hf⟩ := h
 refine ⟨h0, P, rows, hl, Kd.R_lower hR hb, fun t c ht hc => ?_, hf⟩
 obtain ⟨u, rfl, hn⟩ := he t c ht hc
 exact ⟨u, rfl, Kd.N_lower hn hb⟩
def TG (W : World) (base : Nat) (ok : Nat → Prop) (s g n cap : Nat) (ts : List (List S37)) (u : Value) (t : List S37) : Prop :=
 ok g ∧ ∃ (ok1 : Nat → Prop) (rows : List (List Value)), (∀ k, ok1 k → ok k ∧ k ≠ g) ∧ (∀ k, s ≤ k → ok1 k) ∧ rows.length = ts.length ∧ (Kd.raw 1).R 31 W base (fun k => k = g) (.slice (some ⟨g, 0, none⟩) n cap) rows ∧ Kd.N k37 37 W base ok1 u t ∧
  (∀ j t c, ts[j + 1]? = some t → rows[j + 1]? = some c → Kd.FK (Kd.slice 37 k37) W (fun k => (ok k ∧ k ≠ g) ∧ ¬ ok1 k) t c)
section
variable {W w1 : World} {base s g n cap : Nat} {ok : Nat → Prop} {ts : List (List S37)} {u : Value} {t : List S37}
theorem TF_TG (h : TF W base ok (.slice (some ⟨g, 0, none⟩) n cap) ts) (hn : 0 < ts.length) (hfr : ∀ k, W.heap.size ≤ k → ok k ∧ k ≠ g) :
  ∃ A c, W.cell? ⟨g, 0, none⟩ = some (.slice A (ts.getD 0 []).length c) ∧ W.frozen? ⟨g, 0, none⟩ = false ∧ TG W base ok W.heap.size g n cap ts (.slice A (ts.getD 0 []).length c) (ts.getD 0 []) := by
 have hgo : some g = (Value.slice (some ⟨g, 0, none⟩) n cap).ownBlock := by simp [Value.ownBlock]
 have hnn := (Kd.N_reads' (TF_N h)).1
 obtain ⟨h0, P, rows, hl, hR, he, hf⟩ := TF_bound h
 obtain ⟨c0, hc0⟩ : ∃ c, rows[0]? = some c := ⟨_, List.getElem?_eq_getElem (by omega)⟩
 obtain ⟨t0, ht0⟩ : ∃ t, ts[0]? = some t := ⟨_, List.getElem?_eq_getElem hn⟩
 obtain ⟨u0, rfl, hn0⟩ := he t0 c0 ht0 hc0
 have et : ts.getD 0 [] = t0 := by rw [List.getD_eq_getElem?_getD, ht0]; rfl
 rw [et]
 obtain ⟨A, c, rfl⟩ := Kd.N_slice hn0
 obtain ⟨ce, hcl, hM, hcc, hfr2⟩ := Kd.R_elem hR [] (0 : Int) (by omega) (by omega)
 have hce : ce = [.slice A t0.length c] := by
  have h2 := hM.1
  rw [List.getD_eq_getElem?_getD, show (0 : Int).toNat = 0 from rfl, hc0] at h2
  exact h2
 subst hce
 have hx := hcc 0 _ rfl
 have hne : ∀ k, some k ≠ (Value.slice (some ⟨g, 0, none⟩) n cap).ownBlock → k ≠ g := fun k hk e => hk (by rw [e]; exact hgo)
 refine ⟨A, c, hx, hfr2 0, (h0 g hgo.symm).1, fun k => (ok k ∧ k ≠ g) ∧ (P k ∨ W.heap.size ≤ k), rows, fun k hk => hk.1, fun k hk => ⟨hfr k hk, .inr hk⟩, hl, Kd.R_mono hR (fun k hk => by rw [← hgo] at hk; injection hk), Kd.N_mono hn0 (fun k hk => ⟨⟨hk.1.1.1, hne k hk.1.2⟩, .inl hk.2⟩), fun j t c ht hc => Kd.FK_mono (hf j t c ht hc) (fun k hk => ⟨⟨hk.1.1.1, hne k hk.1.2⟩, fun hq => hq.2.elim hk.2 (fun hle => Nat.lt_irrefl _ (Nat.lt_of_lt_of_le hk.1.1.2 hle))⟩)⟩
theorem TG_with (h : TG W base ok s g n cap ts u t) : ∃ ok1 : Nat → Prop, (∀ k, s ≤ k → ok1 k) ∧ (∀ k, u.ownBlock = some k → k ≠ g) ∧ Kd.N k37 37 W base ok1 u t ∧ ∀ w1 u1 t1, W.grownBy w1 u.ownBlock → Kd.N k37 37 w1 base ok1 u1 t1 → TG w1 base ok s g n cap ts u1 t1 := by
 obtain ⟨hg0, ok1, rows, h1, h2, hl, hR, hN, hf⟩ := h
 have hu : ∀ k, u.ownBlock = some k → ok1 k := hN.1
 refine ⟨ok1, h2, fun k hk => (h1 k (hu k hk)).2, hN, fun w1 u1 t1 hg hN1 => ⟨hg0, ok1, rows, h1, h2, hl, Kd.R_step hR (fun k hk hlt => hg.block k hlt (fun e => ?_)), hN1, fun j t c ht hc => Kd.FK_step (hf j t c ht hc) (fun k hk hlt => hg.block k hlt (fun e => hk.2 (hu k e.symm)))⟩⟩
 rw [hk] at e
 exact (h1 g (hu g e.symm)).2 rfl
theorem TG_below (h : TG W base ok s g n cap ts u t) (hb : Below W.heap.size W w1) : TG w1 base ok s g n cap ts u t := by
 obtain ⟨hg0, ok1, rows, h1, h2, hl, hR, hN, hf⟩ := h
 exact ⟨hg0, ok1, rows, h1, h2, hl, Kd.R_below hR hb, Kd.N_below hN hb, fun j t c ht hc => Kd.FK_step (hf j t c ht hc) (fun k _ hlt => hb.block k hlt)⟩
theorem TG_cell (h : TG W base ok s g n cap ts u t) (hn : 0 < ts.length) : TG (W.setCell ⟨g, 0, none⟩ u) base ok s g n cap ts u t ∧ (W.setCell ⟨g, 0, none⟩ u).cell? ⟨g, 0, none⟩ = some u ∧ W.grownBy (W.setCell ⟨g, 0, none⟩ u) (some g) := by
 obtain ⟨hg0, ok1, rows, h1, h2, hl, hR, hN, hf⟩ := h
 have hnn := (Kd.R_reads' hR).1
 obtain ⟨c, hcl, hM, hcc, hfr⟩ := Kd.R_elem (Kd.raw_any hR) [] (0 : Int) (by omega) (by omega)
 have hpo : u.oneCell' = true := by
  obtain ⟨A, cc, rfl⟩ := Kd.N_slice hN
  rfl
 obtain ⟨h3, h4⟩ := Kd.R_seg (Kd.raw_any hR) (0 : Int) (by omega) (by omega) (c := c) (seg := [u]) (j := 0) (x' := [u]) (okp := fun _ => False) hcl hcc (show 0 + [u].length ≤ 1 from Nat.le_refl _) (by
  have e : c.take 0 ++ [u] ++ c.drop (0 + [u].length) = [u] := by
   have : c.length = 1 := hcl
   simp [List.drop_eq_nil_of_le (show c.length ≤ 1 by omega)]
  rw [e]
  exact ⟨rfl, rfl, fun x hx => by rw [List.mem_singleton] at hx; rw [hx]; exact hpo⟩) (fun _ hk => hk.elim)
 have h4' : W.grownBy (W.setCell ⟨g, 0, none⟩ u) (some g) := h4
 have h3' : (Kd.raw 1).R 31 (W.setCell ⟨g, 0, none⟩ u) base (fun k => some k = (Value.slice (some ⟨g, 0, none⟩) n cap).ownBlock) (.slice (some ⟨g, 0, none⟩) n cap) (rows.set 0 [u]) := Kd.raw_tight h3
 have hgo : some g = (Value.slice (some ⟨g, 0, none⟩) n cap).ownBlock := by simp [Value.ownBlock]
 obtain ⟨ce, hcl2, hM2, hcc2, _⟩ := Kd.R_elem h3' [] (0 : Int) (by omega) (by omega)
 have hce : ce = [u] := by
  have h5 := hM2.1
  rw [List.getD_eq_getElem?_getD, show (0 : Int).toNat = 0 from rfl, List.getElem?_set_self (by omega)] at h5
  exact h5
 subst hce
 refine ⟨⟨hg0, ok1, rows.set 0 [u], h1, h2, by rw [List.length_set, hl], Kd.R_mono h3' (fun k hk => by rw [← hgo] at hk; injection hk), Kd.N_step hN (fun k hk hlt => h4'.block k hlt (fun e => (h1 k hk).2 (by injection e))), fun j t c ht hc => ?_⟩, hcc2 0 _ rfl, h4'⟩
 rw [List.getElem?_set_ne (by omega)] at hc
 exact Kd.FK_step (hf j t c ht hc) (fun k hk hlt => h4'.block k hlt (fun e => hk.1.2 (by injection e)))
theorem TG_done (h : TG W base ok s g n cap ts u t) (hn : 0 < ts.length) (hc : W.cell? ⟨g, 0, none⟩ = some u) : Kd.N (Kd.slice 37 k37) 31 W base ok (.slice (some ⟨g, 0, none⟩) n cap) (ts.set 0 t) := by
 obtain ⟨hg0, ok1, rows, h1, h2, hl, hR, hN, hf⟩ := h
 have hnn := (Kd.R_reads' hR).1
 have hgo : some g = (Value.slice (some ⟨g, 0, none⟩) n cap).ownBlock := by simp [Value.ownBlock]
 obtain ⟨c0, hc0⟩ : ∃ c, rows[0]? = some c := ⟨_, List.getElem?_eq_getElem (by omega)⟩
 obtain ⟨ce, hcl, hM, hcc, _⟩ := Kd.R_elem hR [] (0 : Int) (by omega) (by omega)
 have hce : ce = c0 := by
  have h5 := hM.1
  rw [List.getD_eq_getElem?_getD, show (0 : Int).toNat = 0 from rfl, hc0] at h5
  exact h5
 subst hce
 obtain ⟨y, hy⟩ : ∃ y, ce = [y] := by
  match ce, hcl with
  | [y], _ => exact ⟨y, rfl⟩
 subst hy
 have hx := hcc 0 _ rfl
 have hyu : y = u := Option.some.inj ((show W.cell? ⟨g, 0, none⟩ = some y from hx).symm.trans hc)
 subst hyu
 refine ⟨fun k hk => by rw [← hgo] at hk; injection hk with hk; rw [← hk]; exact hg0, rows, by rw [List.length_set, hl], Kd.R_mono hR (fun k hk => by rw [hk]; exact hgo), fun j x c hx2 hc2 => ?_⟩
 cases j with
 | zero =>
  rw [List.getElem?_set_self hn] at hx2
  injection hx2 with hx2
  subst hx2
  rw [hc0] at hc2
  injection hc2 with hc2
  subst hc2
  obtain ⟨A, cc, rfl⟩ := Kd.N_slice hN
  exact Kd.FK_mono (Kd.FK_slice_mk (Kd.N_reads' hN).2.1 (Kd.N_F hN)) (fun k hk => ⟨(h1 k hk).1, fun e => (h1 k hk).2 (by rw [← hgo] at e; injection e)⟩)
 | succ j =>
  rw [List.getElem?_set_ne (by omega)] at hx2
  exact Kd.FK_mono (hf j x c hx2 hc2) (fun k hk => ⟨hk.1.1, fun e => hk.1.2 (by rw [← hgo] at e; injection e)⟩)
end
structure WF (w0 w : World) (g : Nat) (sl : List Int) (p : Int) (g2 g3 : Nat) (AR : Option Addr) (cR : Nat) (rs : List Int) (vT : Value) (W : World) : Prop where
 hL : w0.heap.size ≤ w.heap.size
 hI : IsS66 w0 W g sl p
 hB : Below w0.heap.size w0 W
 hK : KeepBut w W g none
 h2 : W.heap[g2]? = some (.cells #[.slice none 0 0, .slice none 0 0] 26 (0, 0))
 h3 : W.heap[g3]? = some (.cells #[.slice AR rs.length cR, vT] 26 (0, 0))
 hR : Kd.R (Kd.int .i64) 3 W w.heap.size (fun k => w.heap.size ≤ k) (.slice AR rs.length cR) rs
section
variable {w0 w W W' : World} {g : Nat} {sl : List Int} {p : Int} {g2 g3 : Nat} {AR : Option Addr} {cR : Nat} {rs : List Int} {vT : Value}
theorem WF.ext (h : WF w0 w g sl p g2 g3 AR cR rs vT W) (hb : Below W.heap.size W W') : WF w0 w g sl p g2 g3 AR cR rs vT W' :=
 ⟨h.hL, h.hI.below hb, below_step h.hB hb, KeepBut.trans h.hK (KeepBut.of_below hb g none) (.inl rfl), blk_below h.h2 hb, blk_below h.h3 hb, Kd.R_below h.hR hb⟩
theorem WF.grown (h : WF w0 w g sl p g2 g3 AR cR rs vT W) {b : Nat} (hg : W.grownBy W' (some b)) (hb : w.heap.size ≤ b) {cl : Array Value} {t : Nat} (hc : W.heap[b]? = some (.cells cl t (0, 0))) (h26 : t ≠ 26) (h66 : t ≠ 66) (h3' : t ≠ 3) : WF w0 w g sl p g2 g3 AR cR rs vT W' := by
 have ne : ∀ {a : Nat} {cs : Array Value} {t' : Nat}, W.heap[a]? = some (.cells cs t' (0, 0)) → t ≠ t' → some a ≠ some b := by
  intro a cs t' ha ht e
  injection e with e
  rw [e, hc] at ha
  injection ha with ha
  injection ha with _ ha _
  exact ht ha
 refine ⟨h.hL, h.hI.grown hg ?_, ?_, KeepBut.trans h.hK (KeepBut.of_grown hg g) (.inr ⟨b, rfl, hb⟩), blk_grown h.h2 hg (ne h.h2 h26), blk_grown h.h3 hg (ne h.h3 h26), ?_⟩
 ·obtain ⟨A0, c0, hq, _⟩ := h.hI
  exact ne hq h66
 ·have hL := h.hL
  have hK := keep_size h.hK
  exact Below.trans h.hB ⟨hg.os, hg.tape, hg.output, hg.size, fun k hk => hg.block k (by omega) (fun e => by injection e with e; omega)⟩
 ·refine Kd.R_over' (v := .slice (some ⟨b, 0, none⟩) 0 0) (e' := t) h.hR (fun k hk => ?_) ?_ (by simpa [Value.ownBlock] using hg)
  ·have e : b = k := by simpa [Value.ownBlock] using hk
   rw [← e]
   exact ⟨cl, hc⟩
  ·intro q hq
   have e : q = 3 := by simpa [Kd.int, Kd.scalar] using hq
   rw [e]
   exact fun e2 => h3' e2.symm
theorem wrong_end (h : WF w0 w g sl p g2 g3 AR cR rs vT W) (hg2 : w.heap.size ≤ g2) {ts : List (List S37)} {ok : Nat → Prop} (hok : ∀ k, ok k → (w.heap.size ≤ k ∧ some k ≠ (.slice AR rs.length cR : Value).ownBlock) ∧ k ≠ g2) (hN : Kd.N (Kd.slice 37 k37) 31 W w.heap.size ok vT ts) :
  ((W.setCell ⟨g2, 0, none⟩ (.slice AR rs.length cR)).setCell ⟨g2, 1, none⟩ vT).heap[g2]? = some (.cells #[.slice AR rs.length cR, vT] 26 (0, 0)) ∧
  Kd.R (Kd.int .i64) 3 ((W.setCell ⟨g2, 0, none⟩ (.slice AR rs.length cR)).setCell ⟨g2, 1, none⟩ vT) w.heap.size (fun k_ => (w.heap.size ≤ k_)) (.slice AR rs.length cR) rs ∧
  Kd.N (Kd.slice 37 k37) 31 ((W.setCell ⟨g2, 0, none⟩ (.slice AR rs.length cR)).setCell ⟨g2, 1, none⟩ vT) w.heap.size (fun k_ => (w.heap.size ≤ k_) ∧ some k_ ≠ (.slice AR rs.length cR : Value).ownBlock) vT ts ∧
  IsS66 w0 ((W.setCell ⟨g2, 0, none⟩ (.slice AR rs.length cR)).setCell ⟨g2, 1, none⟩ vT) g sl p ∧ Below w0.heap.size w0 ((W.setCell ⟨g2, 0, none⟩ (.slice AR rs.length cR)).setCell ⟨g2, 1, none⟩ vT) ∧ KeepBut w ((W.setCell ⟨g2, 0, none⟩ (.slice AR rs.length cR)).setCell ⟨g2, 1, none⟩ vT) g none := by
 have hne : g ≠ g2 := h.hI.ne_blk h.h2 (by decide)
 have hb : w0.heap.size ≤ g2 := Nat.le_trans h.hL hg2
 refine ⟨blk_put (cs := #[.slice AR rs.length cR, .slice none 0 0]) (blk_put (cs := #[.slice none 0 0, .slice none 0 0]) h.h2 0 _ rfl) 1 _ rfl, ?_, ?_, (h.hI.far hne _).far hne _, below_set (below_set h.hB hb) hb, keep_far (keep_far h.hK hg2 _) hg2 _⟩
 ·exact Kd.R_mono (Kd.R_far (p := ⟨g2, 1, none⟩) (Kd.R_far (p := ⟨g2, 0, none⟩) (Kd.R_types h.hR h.h2 (by decide)) (fun _ hk => hk.2) _) (fun _ hk => hk.2) _) (fun _ hk => hk.1)
 ·exact Kd.N_mono (Kd.N_far (p := ⟨g2, 1, none⟩) (Kd.N_far (p := ⟨g2, 0, none⟩) hN (fun k hk => (hok k hk).2) _) (fun k hk => (hok k hk).2) _) (fun k hk => (hok k hk).1)
end
structure PS (w0 w : World) (g : Nat) (sl : List Int) (p : Int) (g2 g3 : Nat) (AR : Option Addr) (cR : Nat) (rs : List Int) (ok : Nat → Prop) (s go n cap : Nat) (ts : List (List S37)) (c u : Value) (t : List S37) (W : World) : Prop where
 wf : WF w0 w g sl p g2 g3 AR cR rs (.slice (some ⟨go, 0, none⟩) n cap) W
 tg : TG W w.heap.size ok s go n cap ts u t
 hc : W.cell? ⟨go, 0, none⟩ = some c
 hf : W.frozen? ⟨go, 0, none⟩ = false
 hs : s ≤ W.heap.size
section
variable {w0 w W w1 : World} {g : Nat} {sl : List Int} {p : Int} {g2 g3 : Nat} {AR : Option Addr} {cR : Nat} {rs : List Int} {ok : Nat → Prop} {s go n cap : Nat} {ts : List (List S37)} {c u u1 : Value} {t t1 : List S37}
theorem PS.below (h : PS w0 w g sl p g2 g3 AR cR rs ok s go n cap ts c u t W) (hb : Below W.heap.size W w1) : PS w0 w g sl p g2 g3 AR cR rs ok s go n cap ts c u t w1 := by
 have hlt : go < W.heap.size := World.block_lt_of_cell? W _ h.hc
 exact ⟨h.wf.ext hb, TG_below h.tg hb, (hb.cell (p := ⟨go, 0, none⟩) hlt).trans h.hc, (hb.frozen (p := ⟨go, 0, none⟩) hlt).trans h.hf, Nat.le_trans h.hs hb.size⟩
theorem PS.grown (h : PS w0 w g sl p g2 g3 AR cR rs ok s go n cap ts c u t W) (hg : W.grownBy w1 u.ownBlock) (htg : TG w1 w.heap.size ok s go n cap ts u1 t1) : PS w0 w g sl p g2 g3 AR cR rs ok s go n cap ts c u1 t1 w1 := by
 have hlt : go < W.heap.size := World.block_lt_of_cell? W _ h.hc
 obtain ⟨ok1, _, hne, hN, _⟩ := TG_with h.tg
 have hgo : some go ≠ u.ownBlock := fun e => hne go e.symm rfl
 have hh : w1.heap[go]? = W.heap[go]? := hg.block go hlt hgo
 refine ⟨?_, htg, (World.cell?_of_block (a := ⟨go, 0, none⟩) hh).trans h.hc, (World.frozen?_of_block (a := ⟨go, 0, none⟩) hh).trans h.hf, Nat.le_trans h.hs hg.size⟩
 cases hb : u.ownBlock with
 | none => exact h.wf.ext ⟨hg.os, hg.tape, hg.output, hg.size, fun k hk => hg.block k hk (by rw [hb]; simp)⟩
 | some b =>
  obtain ⟨cl, hcl⟩ := Kd.N_typed hN b hb
  exact h.wf.grown (b := b) (by rw [← hb]; exact hg) (Kd.N_base hN b hb) hcl (by decide) (by decide) (by decide)
theorem PS.store (h : PS w0 w g sl p g2 g3 AR cR rs ok s go n cap ts c u t W) (hn : 0 < ts.length) : PS w0 w g sl p g2 g3 AR cR rs ok s go n cap ts u u t (W.setCell ⟨go, 0, none⟩ u) := by
 obtain ⟨h1, h2, h3⟩ := TG_cell h.tg hn
 have hR : ∀ {W' : World}, TG W' w.heap.size ok s go n cap ts u t → (∃ cl, W'.heap[go]? = some (.cells cl 31 (0, 0))) ∧ w.heap.size ≤ go := by
  intro W' hq
  obtain ⟨_, _, _, _, _, _, hR, _, _⟩ := hq
  have hgo : (Value.slice (some ⟨go, 0, none⟩) n cap).ownBlock = some go := by simp [Value.ownBlock]
  exact ⟨Kd.R_typed hR go hgo, Kd.R_base hR go hgo⟩
 obtain ⟨⟨cl, hcl⟩, hbase⟩ := hR h.tg
 obtain ⟨⟨cl', hcl'⟩, _⟩ := hR h1
 exact ⟨h.wf.grown h3 hbase hcl (by decide) (by decide) (by decide), h1, h2, blk_frozen hcl' 0, Nat.le_trans h.hs h3.size⟩
theorem PS.done (h : PS w0 w g sl p g2 g3 AR cR rs ok s go n cap ts u u t W) (hn : 0 < ts.length) (hg2 : w.heap.size ≤ g2) (hok : ∀ k, ok k → (w.heap.size ≤ k ∧ some k ≠ (.slice AR rs.length cR : Value).ownBlock) ∧ k ≠ g2) :
  ((W.setCell ⟨g2, 0, none⟩ (.slice AR rs.length cR)).setCell ⟨g2, 1, none⟩ (.slice (some ⟨go, 0, none⟩) n cap)).heap[g2]? = some (.cells #[.slice AR rs.length cR, (.slice (some ⟨go, 0, none⟩) n cap)] 26 (0, 0)) ∧
  Kd.R (Kd.int .i64) 3 ((W.setCell ⟨g2, 0, none⟩ (.slice AR rs.length cR)).setCell ⟨g2, 1, none⟩ (.slice (some ⟨go, 0, none⟩) n cap)) w.heap.size (fun k_ => (w.heap.size ≤ k_)) (.slice AR rs.length cR) rs ∧
  Kd.N (Kd.slice 37 k37) 31 ((W.setCell ⟨g2, 0, none⟩ (.slice AR rs.length cR)).setCell ⟨g2, 1, none⟩ (.slice (some ⟨go, 0, none⟩) n cap)) w.heap.size (fun k_ => (w.heap.size ≤ k_) ∧ some k_ ≠ (.slice AR rs.length cR : Value).ownBlock) (.slice (some ⟨go, 0, none⟩) n cap) (ts.set 0 t) ∧
  IsS66 w0 ((W.setCell ⟨g2, 0, none⟩ (.slice AR rs.length cR)).setCell ⟨g2, 1, none⟩ (.slice (some ⟨go, 0, none⟩) n cap)) g sl p ∧ Below w0.heap.size w0 ((W.setCell ⟨g2, 0, none⟩ (.slice AR rs.length cR)).setCell ⟨g2, 1, none⟩ (.slice (some ⟨go, 0, none⟩) n cap)) ∧ KeepBut w ((W.setCell ⟨g2, 0, none⟩ (.slice AR rs.length cR)).setCell ⟨g2, 1, none⟩ (.slice (some ⟨go, 0, none⟩) n cap)) g none :=
 wrong_end h.wf hg2 hok (TG_done h.tg hn h.hc)
end
theorem stopW_ {p : Prop} (h : Aside0 p) : p := h.out
structure FC4 (W0 : World) (gb : Nat) (v b0 : Bool) (W : World) : Prop where
 hB : Below W0.heap.size W0 W
 hx : b0 = true → W0.heap.size ≤ gb ∧ W.heap[gb]? = some (.cells #[.bool v] 4 (0, 0))
structure FD4 (w0 w W0 : World) (g : Nat) (sl : List Int) (p : Int) (g2 g3 : Nat) (AR : Option Addr) (cR : Nat) (rs : List Int) (ok : Nat → Prop) (s go : Nat) (ts : List (List S37)) (cO : Nat) (A0 : Option Addr) (c0 : Nat) (tl : List S37) (A78 : Option Addr) (c78 : Nat) (A79 : Option Addr) (c79 : Nat) (b7 b8 b10 : Bool) (W : World) : Prop where
 ps : PS w0 w g sl p g2 g3 AR cR rs ok s go ts.length cO ts (cond b10 (.slice A79 (tl.length + 1) c79) (.slice A0 tl.length c0)) (cond b8 (.slice A79 (tl.length + 1) c79) (.slice A0 tl.length c0)) (cond b8 (tl ++ [(⟨9, 0, 0, ⟨0, 0, []⟩, [], []⟩ : S37)]) tl) W
 h78 : b7 = true → b8 = false → Kd.N k37 37 W W0.heap.size (fun q => W0.heap.size ≤ q) (.slice A78 1 c78) [(⟨9, 0, 0, ⟨0, 0, []⟩, [], []⟩ : S37)]
 hu : ∀ q, ((.slice A0 tl.length c0) : Value).ownBlock = some q → q < W0.heap.size
 hW : W0.heap.size ≤ W.heap.size
def aC4 (W0 : World) (g g2 g3 : Nat) (AR : Option Addr) (cR : Nat) (rs : List Int) (go : Nat) (ts : List (List S37)) (cO : Nat) (pk : Int) (gb : Nat) (v : Bool) (b0 b1 b2 b3 : Bool) : Act :=
 { tmps := #[(.pointer (some ⟨g, 0, none⟩)), undef, (.pointer (some ⟨g2, 0, none⟩)), (.pointer (some ⟨g3, 0, none⟩)), (.pointer (some ⟨g, 0, none⟩)), (.agg #[(.slice AR rs.length cR), (.slice (some ⟨go, 0, none⟩) ts.length cO)]), (.pointer (some ⟨g, 0, none⟩)), (.int .i64 pk), (.bool false), (.bool false), undef, undef, undef, undef, undef, undef, undef, undef, undef, undef, (.bool false), (.bool false), undef, undef, undef, undef, undef, undef, undef, undef, undef, undef, undef, undef, (.bool false), (.bool false), undef, undef, (.bool false), (.bool false), undef, undef, undef, undef, undef, undef, undef, undef, undef, undef, undef, undef, undef, undef, undef, undef, undef, (.bool true), (.bool true), cond b0 (.pointer (some ⟨gb, 0, none⟩)) undef, cond b3 (.bool v) undef, undef, undef, undef, undef, undef, undef, undef, undef, undef, undef, undef, undef, undef, undef, undef, undef, undef, undef, undef, undef, undef], defers := [] }
def LC4 (W0 : World) (g g2 g3 : Nat) (AR : Option Addr) (cR : Nat) (rs : List Int) (go : Nat) (ts : List (List S37)) (cO : Nat) (pk : Int) (b0 b1 b2 b3 : Bool) (a : Act) (W : World) : Prop :=
 ∃ (gb : Nat) (v : Bool), a = aC4 W0 g g2 g3 AR cR rs go ts cO pk gb v b0 b1 b2 b3 ∧ FC4 W0 gb v b0 W
def aD4 (w0 w W0 : World) (g : Nat) (sl : List Int) (p : Int) (g2 g3 : Nat) (AR : Option Addr) (cR : Nat) (rs : List Int) (ok : Nat → Prop) (s go : Nat) (ts : List (List S37)) (cO : Nat) (pk : Int) (gb : Nat) (A0 : Option Addr) (c0 : Nat) (tl : List S37) (A78 : Option Addr) (c78 : Nat) (A79 : Option Addr) (c79 : Nat) (b0 b1 b2 b3 b4 b5 b6 b7 b8 b9 b10 : Bool) : Act :=
 { tmps := #[(.pointer (some ⟨g, 0, none⟩)), undef, (.pointer (some ⟨g2, 0, none⟩)), (.pointer (some ⟨g3, 0, none⟩)), (.pointer (some ⟨g, 0, none⟩)), (.agg #[(.slice AR rs.length cR), (.slice (some ⟨go, 0, none⟩) ts.length cO)]), (.pointer (some ⟨g, 0, none⟩)), (.int .i64 pk), (.bool false), (.bool false), undef, undef, undef, undef, undef, undef, undef, undef, undef, undef, (.bool false), (.bool false), undef, undef, undef, undef, undef, undef, undef, undef, undef, undef, undef, undef, (.bool false), (.bool false), undef, undef, (.bool false), (.bool false), undef, undef, undef, undef, undef, undef, undef, undef, undef, undef, undef, undef, undef, undef, undef, undef, undef, (.bool true), (.bool true), (.pointer (some ⟨gb, 0, none⟩)), (.bool false), undef, undef, undef, undef, undef, undef, undef, undef, undef, undef, cond b0 (.pointer (some ⟨g3, 1, none⟩)) undef, cond b1 (.slice (some ⟨go, 0, none⟩) ts.length cO) undef, cond b2 (.pointer (some ⟨g3, 1, none⟩)) undef, cond b3 (.slice (some ⟨go, 0, none⟩) ts.length cO) undef, cond b4 (.pointer (some ⟨go, 0, none⟩)) undef, cond b5 (.slice A0 tl.length c0) undef, cond b6 (.agg #[(.int .i64 9), (.int .i64 0), (.int .i64 0), (.int .i64 0), (.int .i64 0), (.slice none 0 0), (.slice none 0 0), (.slice none 0 0)]) undef, cond b7 (.slice A78 1 c78) undef, cond b8 (.slice A79 (tl.length + 1) c79) undef, cond b9 (.pointer (some ⟨go, 0, none⟩)) undef, undef], defers := [] }
def LD4 (w0 w W0 : World) (g : Nat) (sl : List Int) (p : Int) (g2 g3 : Nat) (AR : Option Addr) (cR : Nat) (rs : List Int) (ok : Nat → Prop) (s go : Nat) (ts : List (List S37)) (cO : Nat) (pk : Int) (gb : Nat) (A0 : Option Addr) (c0 : Nat) (tl : List S37) (b0 b1 b2 b3 b4 b5 b6 b7 b8 b9 b10 : Bool) (a : Act) (W : World) : Prop :=
 ∃ (A78 : Option Addr) (c78 : Nat) (A79 : Option Addr) (c79 : Nat), a = aD4 w0 w W0 g sl p g2 g3 AR cR rs ok s go ts cO pk gb A0 c0 tl A78 c78 A79 c79 b0 b1 b2 b3 b4 b5 b6 b7 b8 b9 b10 ∧ FD4 w0 w W0 g sl p g2 g3 AR cR rs ok s go ts cO A0 c0 tl A78 c78 A79 c79 b7 b8 b10 W
theorem spec_l92Wrong.calls (k : Nat) (g : Nat) (s0_0 : List Int) (s0_1 : Int) (r1 : List Int) (r2 : List (List (S37))) (r3 : Int) (w0 w : World) (hI : IsS66 w0 w g s0_0 s0_1) (hB : Below w0.heap.size w0 w) (h : spec_l92Wrong.f k s0_0 s0_1 = some (r1, r2, r3)) :
  Calls Try.prog 29 #[.pointer (some ⟨g, 0, none⟩)] w fun e w' => ∃ v0_ v1_ : Value, e = .returned (.agg #[v0_, v1_]) ∧ Kd.R (Kd.int .i64) 3 w' w.heap.size (fun k_ => (w.heap.size ≤ k_)) v0_ r1 ∧ Kd.N (Kd.slice 37 k37) 31 w' w.heap.size (fun k_ => (w.heap.size ≤ k_) ∧ some k_ ≠ (v0_ : Value).ownBlock) v1_ r2 ∧ IsS66 w0 w' g s0_0 r3 ∧ Below w0.heap.size w0 w' ∧ KeepBut w w' g none := by
 have hu26 := Try.underlying26
 have hu37 := Try.underlying37
 have HI0 := am hI
 have HK := am (KeepBut.refl w g none)
 have HL := am hB.size
 clear hI
 have HW0 := am hB.size
 have HB := am hB
 clear hB
 have H : ((spec_l92Program.f k s0_0 s0_1).bind fun bt480 => ((spec_l6Rd_pick.f k s0_0 bt480.2.2 30).bind fun bt488 => (if bt488.1 = 0 then ((some (([0, 5] : List Int) : List Int)).bind fun y490 => ((spec_l6Rd_pick.f k s0_0 bt488.2 2).bind fun bt493 => (if 0 ≤ bt493.1 then (if bt493.1 < (y490.length : Int) then (if bt480.1.length < 17592186044416 then (some ((bt480.1 ++ [rd y490 bt493.1]), bt480.2.1, bt493.2)) else (none)) else (none)) else (none)))) else (if bt488.1 = 1 then ((spec_l91Leaf.f k s0_0 bt488.2).bind fun bt499 => (if bt480.2.1.length < 5864062014805 then (some (bt480.1, (bt480.2.1 ++ [(([(⟨4, 0, (bt480.1.length : Int), (⟨bt499.1, bt499.2.1, bt499.2.2.1⟩ : S34), ([] : List (S37)), ([] : List (S37))⟩ : S37)] : List (S37)))]), bt499.2.2.2)) else (none))) else (if bt488.1 = 2 then (some (bt480.1, (([] : List (List (S37)))), bt488.2)) else (if bt488.1 = 3 then (if 0 < (bt480.2.1.length : Int) then ((some (([rd_L4 bt480.2.1 0, rd_L4 bt480.2.1 0, rd_L4 bt480.2.1 0] : List (List (S37))) : List (List (S37)))).bind fun y517 => (if bt480.2.1.length + y517.length < 5864062014805 then (some (bt480.1, (bt480.2.1 ++ y517), bt488.2)) else (none))) else (none)) else (if bt488.1 = 4 then (if 0 < (bt480.2.1.length : Int) then (if (rd_L4 bt480.2.1 0).length + 1 < 1256584717458 then (some (bt480.1, bt480.2.1.set 0 (rd_L4 bt480.2.1 0 ++ [⟨9, 0, 0, ⟨0, 0, []⟩, [], []⟩]), bt488.2)) else (none)) else (none)) else (some (bt480.1, bt480.2.1, bt488.2))))))))) = some (r1, r2, r3) := h
 clear h
 obtain ⟨⟨t480, t483, t486⟩, A20, H⟩ := bsm H
 (try dsimp only at H)
 have A2 := am A20
 clear A20
 obtain ⟨⟨t488, t489⟩, A30, H⟩ := bsm H
 (try dsimp only at H)
 have A3 := am A30
 clear A30
 have HH_ := am H
 clear H
 go_enter Try.func29, Try.ntmps29
 go_upto_region 3 with (first | ((with_reducible refine gate_dst (N := 2) rfl ?_); refine box_event ?hg (N := 2) ?hd (cs := #[.slice none 0 0, .slice none 0 0]) (t := 26) ?hr ?_; (case hd => rfl); (case hg => rfl); (case hr => first | (go_simp; done) | (go_simp; rfl)); intro gb479 hg w9 hbox hb; have n0_ := am (IsS66.below ab4_ hb); have n1_ := am (KeepBut.trans ab3_ (KeepBut.of_below hb g none) (.inl rfl)); have n2_ := am (below_step ab5_ hb); have n3_ := am (hbox); have n4_ := am ((by rw [hg]; exact (keep_size (w := w) (g := g) (row := none) ab3_) : w.heap.size ≤ gb479)); have n5_ := am ((Nat.le_trans HW0.out (by rw [hg]; exact (keep_size (w := w) (g := g) (row := none) ab3_) : w.heap.size ≤ gb479) : w0.heap.size ≤ gb479)); have n6_ := am ((by rw [hg]; exact Nat.ne_of_lt (IsS66.lt (show IsS66 w0 _ g s0_0 s0_1 from by repeat (first | (with_reducible first | exact HI0.out | apply IsS66.alloc | apply IsS66.drewN | apply IsS66.drew | apply IsS66.set_1) | exact HI0.out))) : g ≠ gb479)); have n7_ := am ((by rw [hg]; exact Nat.ne_of_gt (IsS66.lt (show IsS66 w0 _ g s0_0 s0_1 from by repeat (first | (with_reducible first | exact HI0.out | apply IsS66.alloc | apply IsS66.drewN | apply IsS66.drew | apply IsS66.set_1) | exact HI0.out))) : gb479 ≠ g)); clear HI0 HK HB; have HI0 := n0_; have HK := n1_; have HB := n2_; have BK479 := n3_; have GW479 := n4_; have GE479 := n5_; have NB0_479 := n6_; have NB479_0 := n7_; clear n0_ n1_ n2_ n3_ n4_ n5_ n6_ n7_ hb hbox hg) | ((with_reducible refine gate_callee (f := 49) rfl ?_); refine goesL_ (some 5) rfl rfl Try.func49 (by kernel_rfl) rfl #[.pointer (some ⟨g, 0, none⟩)] rfl ab1_ ?_; (with_reducible refine (spec_l92Program.callsT k g s0_0 s0_1 t480 t483 t486 w0 _ ?side1 ?side2 A2.out).mono ?_); (case side1 => exact ab87_); (case side2 => repeat (first | (with_reducible first | exact HB.out | apply below_alloc | apply pw_below_drewN | apply below_drew1 | refine below_set ?_ (IsS66.ge HI0.out) | refine below_set ?_ GE479.out) | exact HB.out)); rintro e w10 ⟨v481, v484, rfl, ho0, ho1, hi, hb, hk⟩; refine ⟨_, rfl, ?_⟩; have n0_ := am (KeepBut.blk hk (g' := gb479) (o := .cells #[.slice none 0 0, .slice none 0 0] 26 (0, 0)) (aG_ BK479.out) NB479_0.out (by simp)); have n1_ := am (Kd.R_lower (Kd.R_newM (M := fun k_ => (w.heap.size ≤ k_)) (Kd.R_mono (ok' := fun k_ => True) ho0 (fun _ hk_ => trivial)) (keep_size (w := w) (g := g) (row := none) ab39_) (fun k_ h_ => h_)) (keep_size (w := w) (g := g) (row := none) ab39_)); have n2_ := am (TF_lower (TF_mono (ok' := fun k_ => (w.heap.size ≤ k_) ∧ some k_ ≠ (v481 : Value).ownBlock ∧ k_ ≠ gb479 ∧ k_ ≠ g) ho1 (fun k_ hk_ => ⟨(Nat.le_trans (keep_size (w := w) (g := g) (row := none) ab39_) hk_.1), hk_.2, (Kd.freshB (g := gb479) (o := .cells #[.slice none 0 0, .slice none 0 0] 26 (0, 0)) (aG_ BK479.out) k_ hk_.1), (IsS66.fresh ab87_ k_ hk_.1)⟩)) (keep_size (w := w) (g := g) (row := none) ab39_)); have n3_ := am (KeepBut.trans ab39_ hk (.inl rfl)); have n4_ := am (hb); have n5_ := am (hi); clear BK479 HK HB HI0; have BK479 := n0_; have HO482 := n1_; have HO485 := n2_; have HK := n3_; have HB := n4_; have HI0 := n5_; clear n0_ n1_ n2_ n3_ n4_ n5_; (try clear hb); (try clear hb2); (try clear hk); (try clear hi); (try clear ho0); (try clear ho1)) | ((with_reducible refine gate_dst (N := 3) rfl ?_); refine box_event ?hg (N := 3) ?hd (cs := #[.slice none 0 0, .slice none 0 0]) (t := 26) ?hr ?_; (case hd => rfl); (case hg => rfl); (case hr => first | (go_simp; done) | (go_simp; rfl)); intro gb487 hg w11 hbox hb; have n0_ := am (Kd.R_below (aR_ HO482.out) hb); have n1_ := am (TF_below (TF_elderB (by (with_reducible repeat (first | apply TF_alloc | apply TF_drewN | apply TF_drew)); exact HO485.out) gb487 (Nat.le_of_eq hg.symm)) hb); have n2_ := am (IsS66.below ab87_ hb); have n3_ := am (blk_below (g := gb479) (o := .cells #[.slice none 0 0, .slice none 0 0] 26 (0, 0)) (aG_ BK479.out) hb); have n4_ := am (KeepBut.trans ab39_ (KeepBut.of_below hb g none) (.inl rfl)); have n5_ := am (below_step (by repeat (first | (with_reducible first | exact HB.out | apply below_alloc | apply pw_below_drewN | apply below_drew1 | refine below_set ?_ (IsS66.ge HI0.out) | refine below_set ?_ GE479.out) | exact HB.out)) hb); have n6_ := am (hbox); have n7_ := am ((by rw [hg]; exact (keep_size (w := w) (g := g) (row := none) ab39_) : w.heap.size ≤ gb487)); have n8_ := am ((Nat.le_trans HW0.out (by rw [hg]; exact (keep_size (w := w) (g := g) (row := none) ab39_) : w.heap.size ≤ gb487) : w0.heap.size ≤ gb487)); have n9_ := am ((by rw [hg]; exact Nat.ne_of_lt (blk_lt (g := gb479) (o := .cells #[.slice none 0 0, .slice none 0 0] 26 (0, 0)) (aG_ BK479.out)) : gb479 ≠ gb487)); have n10_ := am ((by rw [hg]; exact Nat.ne_of_gt (blk_lt (g := gb479) (o := .cells #[.slice none 0 0, .slice none 0 0] 26 (0, 0)) (aG_ BK479.out)) : gb487 ≠ gb479)); have n11_ := am ((by rw [hg]; exact Nat.ne_of_lt (IsS66.lt (show IsS66 w0 _ g s0_0 t486 from by repeat (first | (with_reducible first | exact HI0.out | apply IsS66.alloc | apply IsS66.drewN | apply IsS66.drew | apply IsS66.set_1 | refine IsS66.far ?_ NB0_479.out _) | exact HI0.out))) : g ≠ gb487)); have n12_ := am ((by rw [hg]; exact Nat.ne_of_gt (IsS66.lt (show IsS66 w0 _ g s0_0 t486 from by repeat (first | (with_reducible first | exact HI0.out | apply IsS66.alloc | apply IsS66.drewN | apply IsS66.drew | apply IsS66.set_1 | refine IsS66.far ?_ NB0_479.out _) | exact HI0.out))) : gb487 ≠ g)); clear HO482 HO485 HI0 BK479 HK HB; have HO482 := n0_; have HO485 := n1_; have HI0 := n2_; have BK479 := n3_; have HK := n4_; have HB := n5_; have BK487 := n6_; have GW487 := n7_; have GE487 := n8_; have NB479_487 := n9_; have NB487_479 := n10_; have NB0_487 := n11_; have NB487_0 := n12_; clear n0_ n1_ n2_ n3_ n4_ n5_ n6_ n7_ n8_ n9_ n10_ n11_ n12_ hb hbox hg; obtain ⟨Ao12, co12, eo12⟩ := Kd.R_slice HO482.out; subst eo12; have hnb13 := NB487_479.out; have hnc13 := NB479_487.out; have hnb14 := NB487_0.out; have hnc14 := NB0_487.out; obtain ⟨hcz15_0, hcz15_1, hfz15_0, hfz15_1⟩ := bcf2_ BK487.out; obtain ⟨Ao16, co16, eo16⟩ := Kd.N_slice (TF_N HO485.out); subst eo16) | ((with_reducible refine gate_callee (f := 50) rfl ?_); refine goesL_ (some 7) rfl rfl Try.func50 (by kernel_rfl) rfl #[.pointer (some ⟨g, 0, none⟩), .int .i64 30] rfl ab1_ ?_; (with_reducible refine (spec_l6Rd_pick.calls k g s0_0 t486 30 t488 t489 w0 _ ?side1 ?side2 A3.out).mono ?_); (case side1 => exact ab12_); (case side2 => exact ab16_); rintro e w17 ⟨rfl, hi, hb, hk⟩; refine ⟨_, rfl, ?_⟩; have n0_ := am (KeepBut.blk hk (g' := gb479) (o := .cells #[.slice none 0 0, .slice none 0 0] 26 (0, 0)) (by (with_reducible repeat (first | refine blk_drewN ?_ _ | refine blk_drew ?_ | refine blk_alloc ?_ _)); refine blk_far ?_ NB479_487.out _; (with_reducible repeat (first | refine blk_drewN ?_ _ | refine blk_drew ?_ | refine blk_alloc ?_ _)); refine blk_far ?_ NB479_487.out _; (with_reducible repeat (first | refine blk_drewN ?_ _ | refine blk_drew ?_ | refine blk_alloc ?_ _)); exact BK479.out) NB479_0.out (by simp)); have n1_ := am (Kd.R_mono (Kd.R_keep (IsS66.apart (show IsS66 w0 _ g s0_0 t486 from by repeat (first | (with_reducible first | exact HI0.out | apply IsS66.alloc | apply IsS66.drewN | apply IsS66.drew | apply IsS66.set_1 | refine IsS66.far ?_ NB0_479.out _ | refine IsS66.far ?_ NB0_487.out _) | exact HI0.out)) (by (with_reducible repeat (first | apply Kd.R_alloc | apply Kd.R_drewN | apply Kd.R_drew)); exact (Kd.R_mono (Kd.R_far (p := ⟨gb487, 1, none⟩) (Kd.R_far (p := ⟨gb487, 0, none⟩) (Kd.R_types HO482.out BK487.out (by decide)) (fun _ hk => hk.2) (.slice Ao12 t480.length co12)) (fun _ hk => hk.2) (.slice Ao16 t483.length co16)) (fun _ h_ => h_.1))) (by decide)) hk (fun _ h => h.2)) (fun _ h => h.1)); have n2_ := am (TF_mono (TF_keep (TF_mono (ok := fun k_ => ((((w.heap.size ≤ k_)) ∧ (some k_ ≠ (.slice Ao12 t480.length co12 : Value).ownBlock ∧ (k_ ≠ gb479 ∧ k_ ≠ g))) ∧ k_ ≠ gb487)) (by (with_reducible repeat (first | apply TF_alloc | apply TF_drewN | apply TF_drew)); exact (TF_mono (TF_far (p := ⟨gb487, 1, none⟩) (TF_far (p := ⟨gb487, 0, none⟩) (TF_mono HO485.out (fun k_ hk => (⟨hk, hk.2⟩ : _ ∧ k_ ≠ gb487))) (fun _ hk => hk.2) (.slice Ao12 t480.length co12)) (fun _ hk => hk.2) (.slice Ao16 t483.length co16)) (fun _ h_ => h_.1))) (fun k_ hk_ => (⟨hk_, hk_.1.2.2.2⟩ : _ ∧ k_ ≠ g))) hk (fun _ h => h.2)) (fun _ h => h.1)); have n3_ := am (KeepBut.blk hk (g' := gb487) (o := .cells #[.slice Ao12 t480.length co12, .slice Ao16 t483.length co16] 26 (0, 0)) (by (with_reducible repeat (first | refine blk_drewN ?_ _ | refine blk_drew ?_ | refine blk_alloc ?_ _)); refine blk_put (cs := #[.slice Ao12 t480.length co12, .slice none 0 0]) ?_ 1 _ rfl; (with_reducible repeat (first | refine blk_drewN ?_ _ | refine blk_drew ?_ | refine blk_alloc ?_ _)); refine blk_put (cs := #[.slice none 0 0, .slice none 0 0]) ?_ 0 _ rfl; (with_reducible repeat (first | refine blk_drewN ?_ _ | refine blk_drew ?_ | refine blk_alloc ?_ _)); exact BK487.out) NB487_0.out (by simp)); have n4_ := am (KeepBut.trans ab7_ hk (.inl rfl)); have n5_ := am (hb); have n6_ := am (hi); clear BK479 HO482 HO485 BK487 HK HB HI0; have BK479 := n0_; have HO482 := n1_; have HO485 := n2_; have BK487 := n3_; have HK := n4_; have HB := n5_; have HI0 := n6_; clear n0_ n1_ n2_ n3_ n4_ n5_ n6_; (try clear hb); (try clear hb2); (try clear hk); (try clear hi)))
 have H := HH_.out
 clear HH_
 by_cases c4 : t488 = 0
 ·rw [if_pos c4] at H
  have c4b0 : (t488 == 0) = true := beq_iff_eq.mpr c4
  have c4b1 : (t488 != 0) = false := bne_eq_false_iff_eq.mpr c4
  clear c4
  obtain ⟨y490, hy490⟩ : ∃ y_ : List Int, y_ = (([0, 5] : List Int)) := ⟨_, rfl⟩
  replace H : ((spec_l6Rd_pick.f k s0_0 t489 2).bind fun bt493 => (if 0 ≤ bt493.1 then (if bt493.1 < (y490.length : Int) then (if t480.length < 17592186044416 then (some ((t480 ++ [rd y490 bt493.1]), t483, bt493.2)) else (none)) else (none)) else (none))) = some (r1, r2, r3) := by first | (rw [hy490]; with_reducible exact H) | (have H2_ := (Option.bind_some _ _).symm.trans H; rw [hy490]; with_reducible exact H2_) | (have H2_ := (Option.bind_some _ _).symm.trans H; with_reducible exact H2_) | with_reducible exact H | (rw [hy490]; exact H) | exact H
  have Ny490 := am hy490
  clear hy490
  obtain ⟨⟨t493, t494⟩, A50, H⟩ := bsm H
  (try dsimp only at H)
  have A5 := am A50
  clear A50
  by_cases c6 : 0 ≤ t493
  ·rw [if_pos c6] at H
   have c6b0 : decide (0 ≤ t493) = true := decide_eq_true c6
   clear c6
   by_cases c7 : t493 < (y490.length : Int)
   ·rw [if_pos c7] at H
    have c7b0 : decide (t493 < (y490.length : Int)) = true := decide_eq_true c7
    clear c7
    by_cases c8 : t480.length < 17592186044416
    ·rw [if_pos c8] at H
     have LMc8 := am c8
     clear c8
     obtain ⟨y496, hy496⟩ : ∃ y_ : List Int, y_ = (t480 ++ [rd y490 t493]) := ⟨_, rfl⟩
     replace H : (some (y496, t483, t494)) = some (r1, r2, r3) := by first | (rw [hy496]; with_reducible exact H) | (have H2_ := (Option.bind_some _ _).symm.trans H; rw [hy496]; with_reducible exact H2_) | (have H2_ := (Option.bind_some _ _).symm.trans H; with_reducible exact H2_) | with_reducible exact H | (rw [hy496]; exact H) | exact H
     have Ny496 := am hy496
     clear hy496
     simp only [Option.some.injEq, Prod.mk.injEq] at H
     obtain ⟨rfl, rfl, rfl⟩ := H
     have n9_ := am (TF_N HO485.out)
     clear HO485
     have HO485 := n9_
     clear n9_
     try go_wp2
     have pi495 : (0 ≤ (t493 : Int)) = True := eq_true (of_decide_eq_true (by first | (with_reducible assumption) | assumption))
     have qi495 : (t493 < (y490.length : Int)) = True := eq_true (of_decide_eq_true (by first | (with_reducible assumption) | assumption))
     have n0_ := am (Kd.R_drew HO482.out)
     have n1_ := am (Kd.N_drew HO485.out)
     have n2_ := am (blk_drew BK479.out)
     have n3_ := am (blk_drew BK487.out)
     have n4_ := am (IsS66.drew HI0.out)
     have n5_ := am (keep_drew HK.out)
     have n6_ := am (below_drew1 HB.out)
     clear HO482
     clear HO485
     clear BK479
     clear BK487
     clear HI0
     clear HK
     clear HB
     have HO482 := n0_
     have HO485 := n1_
     have BK479 := n2_
     have BK487 := n3_
     have HI0 := n4_
     have HK := n5_
     have HB := n6_
     clear n0_ n1_ n2_ n3_ n4_ n5_ n6_
     refine start_ (n := 11) (S := fun w' => w'.cell? ⟨gb487, 0, none⟩ = some (.slice Ao12 t480.length co12) ∧ w'.cell? ⟨gb487, 1, none⟩ = some (.slice Ao16 t483.length co16)) (ds := [10]) #[false, false, false, false, false, false, false, false, false, false, false] (by kernel_rfl) rfl rfl ⟨(blk_cell BK487.out 0).trans rfl, (blk_cell BK487.out 1).trans rfl⟩ (fun hHeld => ?_); refine with_tabW spec_l92Wrong.tab4 spec_l92Wrong.bits4 (fun HT_ HW_ => ?_)
     generalize w17.drew = w18 at HO482 HO485 BK479 BK487 HI0 HK HB hHeld ⊢
     refine pure_ (i := 0) (N := some 10) (v := ?_) (a' := ?_) #[true, false, false, false, false, false, false, false, false, false, false] rfl rfl (any_of HT_.out (by kernel_rfl)) (fun _ _ _ h => h) (Or.inl ⟨by rfl, ?_⟩) ?_ ?_
     rotate_left
     ·intro w'
      go_simp
      with_reducible rfl
     rotate_left
     ·simp only [Act.put, List.setIfInBounds_toArray, List.set_cons_zero, List.set_cons_succ, i64_w, i32_w]
      rfl
     refine pure_ (i := 3) (N := some 13) (v := ?_) (a' := ?_) #[true, false, false, true, false, false, false, false, false, false, false] rfl rfl (any_of HT_.out (by kernel_rfl)) (fun _ _ _ h => h) (Or.inl ⟨by rfl, ?_⟩) ?_ ?_
     rotate_left
     ·intro w'
      go_simp
      with_reducible rfl
     rotate_left
     ·simp only [Act.put, List.setIfInBounds_toArray, List.set_cons_zero, List.set_cons_succ, i64_w, i32_w]
      rfl
     refine take_ (i := 1) (N := some 11) (v := ?_) (a' := ?_) #[true, true, false, true, false, false, false, false, false, false, false] rfl rfl (take_ofW HT_.out HW_.out (by kernel_rfl)) (fun _ _ _ h => h) (Or.inl ⟨by rfl, ?_⟩) hHeld ?_ ?_
     rotate_left
     ·rintro w' ⟨s0, s1⟩
      go_simp
      with_reducible rfl
     rotate_left
     ·simp only [Act.put, List.setIfInBounds_toArray, List.set_cons_zero, List.set_cons_succ, i64_w, i32_w]
      rfl
     refine join_ (σ := Value × Addr) 6 #[true, true, true, true, true, false, false, false, false, false, false] (fun s_ => [(12, s_.1), (14, .int .i64 t493)]) (fun s_ w' => (w'.cell? ⟨gb487, 0, none⟩ = some (.slice Ao12 t480.length co12) ∧ w'.cell? ⟨gb487, 1, none⟩ = some (.slice Ao16 t483.length co16)) ∧ (Kd.R (Kd.int .i64) 3 w' w.heap.size (fun k_ => (w.heap.size ≤ k_) ∧ some k_ ≠ (s_.1 : Value).ownBlock) (.slice Ao12 t480.length co12) t480) ∧ (Kd.N (Kd.slice 37 k37) 31 w' w.heap.size (fun k_ => (w.heap.size ≤ k_) ∧ some k_ ≠ (.slice Ao12 t480.length co12 : Value).ownBlock ∧ some k_ ≠ (s_.1 : Value).ownBlock ∧ k_ ≠ g ∧ k_ ≠ gb479 ∧ k_ ≠ gb487) (.slice Ao16 t483.length co16) t483) ∧ (Kd.R (Kd.int .i64) 3 w' w.heap.size (fun k_ => (w.heap.size ≤ k_) ∧ some k_ ≠ (.slice Ao12 t480.length co12 : Value).ownBlock) s_.1 y490) ∧ (∃ c_, (s_.1 : Value) = .slice (some s_.2) y490.length c_) ∧ (w'.heap[gb479]? = some (.cells #[.slice none 0 0, .slice none 0 0] 26 (0, 0))) ∧ (w'.heap[gb487]? = some (.cells #[.slice Ao12 t480.length co12, .slice Ao16 t483.length co16] 26 (0, 0))) ∧ (IsS66 w0 w' g s0_0 t494) ∧ (KeepBut w w' g none) ∧ (Below w0.heap.size w0 w')) ?_ ?_
     rotate_left
     ·intro hCont
      refine two_ (i := 2) (j := 4) (Ni := some 12) (Nj := some 14) #[true, true, true, true, false, false, false, false, false, false, false] #[true, true, false, true, true, false, false, false, false, false, false] rfl rfl rfl rfl (two_of HT_.out (by kernel_rfl)) (by decide) (by decide) (fun K hK => ?_) (fun K hK => ?_)
      ·skip
       refine Kd.R_lit_step (Kd.int .i64) _ 3 ?hg (N := 12) ?hd (xs := ([0, 5] : List Int)) (inner := [.int .i64 0, .int .i64 5]) (ok := fun _ => True) (okp := fun _ => True) ?hr ?hp (fun _ hk => hk) trivial (Below.refl _ _) (Nat.le_refl _) (by simp) ?_; (case hd => rfl); (case hg => rfl); (case hr => first | (go_simp; done) | (go_simp; rfl)); (case hp => exact (Reps.one (show Kd.M (Kd.int .i64) _ _ _ 0 [.int .i64 0] from rfl) (Reps.one (show Kd.M (Kd.int .i64) _ _ _ 5 [.int .i64 5] from rfl) (Reps.none _ _))))
       intro v491 w19 ho20 hb hg_ hnew_
       clear hg_ hnew_
       (first | rw [← Ny490.out] at ho20 | (simp only [Int.reduceToNat] at ho20; rw [← Ny490.out] at ho20))
       have n0_ := am (Kd.R_elder' (aR_ HO482.out) (Kd.R_base ho20) hb)
       have n1_ := am (Kd.N_elder' (aN_ HO485.out) (Kd.R_base ho20) hb)
       have n2_ := am (Kd.R_lower (Kd.R_new' (Kd.R_newM (M := fun k_ => (w.heap.size ≤ k_)) ho20 (keep_size (w := w) (g := g) (row := none) ab7_) (fun k_ h_ => h_)) (Kd.R_lt (aR_ HO482.out))) (keep_size (w := w) (g := g) (row := none) ab7_))
       have n3_ := am (IsS66.below ab12_ hb)
       have n4_ := am (blk_below (g := gb479) (o := .cells #[.slice none 0 0, .slice none 0 0] 26 (0, 0)) (aG_ BK479.out) hb)
       have n5_ := am (blk_below (g := gb487) (o := .cells #[.slice Ao12 t480.length co12, .slice Ao16 t483.length co16] 26 (0, 0)) (aG_ BK487.out) hb)
       have n6_ := am (KeepBut.trans ab7_ (KeepBut.of_below hb g none) (.inl rfl))
       have n7_ := am (below_step ab16_ hb)
       clear HO482
       clear HO485
       clear HI0
       clear BK479
       clear BK487
       clear HK
       clear HB
       have HO482 := n0_
       have HO485 := n1_
       have HO492 := n2_
       have HI0 := n3_
       have BK479 := n4_
       have BK487 := n5_
       have HK := n6_
       have HB := n7_
       clear n0_ n1_ n2_ n3_ n4_ n5_ n6_ n7_
       clear hb ho20
       obtain ⟨Ao21, co21, eo21⟩ := Kd.R_slice HO492.out
       subst eo21
       obtain ⟨ado21, fo21, _⟩ := Kd.at_int (Kd.R_reads' HO492.out).2.2 0 (by decide) (by rw [Ny490.out]; simp)
       cases fo21
       refine hK.out _ _ ⟨(blk_cell BK487.out 0).trans rfl, (blk_cell BK487.out 1).trans rfl⟩ (fun hHeld => ?_)
       clear hK K
       refine norm_ (a' := ?_) ?_ ?_
       rotate_left
       ·show Act.put _ (some 12) _ = _
        simp only [Act.put, List.setIfInBounds_toArray, List.set_cons_zero, List.set_cons_succ, i64_w, i32_w]
        rfl
       refine one_ (i := 4) (N := some 14) #[true, true, true, true, true, false, false, false, false, false, false] rfl rfl (one_of HT_.out (by kernel_rfl)) (by decide) (fun K hK => ?_)
       refine goes_ Try.func50 (by kernel_rfl) rfl #[.pointer (some ⟨g, 0, none⟩), .int .i64 2] (by rfl) rfl rfl ab1_ ?_
       with_reducible refine (spec_l6Rd_pick.calls k g s0_0 t489 2 t493 t494 w0 _ ?side1 ?side2 A5.out).mono ?_
       (case side1 => exact ab12_)
       (case side2 => exact ab16_)
       rintro e w22 ⟨rfl, hi, hb, hk⟩
       refine ⟨_, rfl, ?_⟩
       have n0_ := am (KeepBut.blk hk (g' := gb479) (o := .cells #[.slice none 0 0, .slice none 0 0] 26 (0, 0)) (aG_ BK479.out) NB479_0.out (by simp))
       have n1_ := am (Kd.R_mono (Kd.R_keep (IsS66.apart (show IsS66 w0 _ g s0_0 t489 from by repeat (first | (with_reducible first | exact HI0.out | apply IsS66.alloc | apply IsS66.drewN | apply IsS66.drew | apply IsS66.set_1 | refine IsS66.far ?_ NB0_479.out _ | refine IsS66.far ?_ NB0_487.out _) | exact HI0.out)) (aR_ HO482.out) (by decide)) hk (fun _ h => h.2)) (fun _ h => h.1))
       have n2_ := am (Kd.N_mono (Kd.N_keep (Kd.N_mono (ok := fun k_ => (((((w.heap.size ≤ k_)) ∧ (some k_ ≠ (.slice Ao12 t480.length co12 : Value).ownBlock ∧ (k_ ≠ gb479 ∧ k_ ≠ g))) ∧ k_ ≠ gb487) ∧ some k_ ≠ (.slice (some ado21) y490.length co21 : Value).ownBlock)) (aN_ HO485.out) (fun k_ hk_ => (⟨hk_, hk_.1.1.2.2.2⟩ : _ ∧ k_ ≠ g))) hk (fun _ h => h.2)) (fun _ h => h.1))
       have n3_ := am (KeepBut.blk hk (g' := gb487) (o := .cells #[.slice Ao12 t480.length co12, .slice Ao16 t483.length co16] 26 (0, 0)) (aG_ BK487.out) NB487_0.out (by simp))
       have n4_ := am (Kd.R_mono (Kd.R_keep (IsS66.apart (show IsS66 w0 _ g s0_0 t489 from by repeat (first | (with_reducible first | exact HI0.out | apply IsS66.alloc | apply IsS66.drewN | apply IsS66.drew | apply IsS66.set_1 | refine IsS66.far ?_ NB0_479.out _ | refine IsS66.far ?_ NB0_487.out _) | exact HI0.out)) (aR_ HO492.out) (by decide)) hk (fun _ h => h.2)) (fun _ h => h.1))
       have n5_ := am (KeepBut.trans ab7_ hk (.inl rfl))
       have n6_ := am (hb)
       have n7_ := am (hi)
       clear BK479
       clear HO482
       clear HO485
       clear BK487
       clear HO492
       clear HK
       clear HB
       clear HI0
       have BK479 := n0_
       have HO482 := n1_
       have HO485 := n2_
       have BK487 := n3_
       have HO492 := n4_
       have HK := n5_
       have HB := n6_
       have HI0 := n7_
       clear n0_ n1_ n2_ n3_ n4_ n5_ n6_ n7_
       (try clear hb)
       (try clear hb2)
       (try clear hk)
       (try clear hi)
       refine hK.out _ _ ⟨(blk_cell BK487.out 0).trans rfl, (blk_cell BK487.out 1).trans rfl⟩ (fun hHeld => ?_)
       clear hK K
       refine norm_ (a' := ?_) ?_ ?_
       rotate_left
       ·show Act.put _ (some 14) _ = _
        simp only [Act.put, List.setIfInBounds_toArray, List.set_cons_zero, List.set_cons_succ, i64_w, i32_w]
        rfl
       exact norm_ (by simp only [putAll, Act.put, List.setIfInBounds_toArray, List.set_cons_zero, List.set_cons_succ]) (hCont (.slice (some ado21) y490.length co21, ado21) _ ⟨hHeld, (by (with_reducible repeat (first | apply Kd.R_alloc | apply Kd.R_drewN | apply Kd.R_drew)); exact Kd.R_mono HO482.out (fun _ hk => ⟨hk.1.1, hk.2⟩)), (by (with_reducible repeat (first | apply Kd.N_alloc | apply Kd.N_drewN | apply Kd.N_drew)); exact Kd.N_mono HO485.out (fun _ hk => ⟨hk.1.1.1, ⟨hk.1.1.2.1, ⟨hk.2, ⟨hk.1.1.2.2.2, ⟨hk.1.1.2.2.1, hk.1.2⟩⟩⟩⟩⟩)), (by (with_reducible repeat (first | apply Kd.R_alloc | apply Kd.R_drewN | apply Kd.R_drew)); exact Kd.R_mono HO492.out (fun _ hk => ⟨hk.1.1, hk.2⟩)), ⟨_, rfl⟩, (aG_ BK479.out), (aG_ BK487.out), ab12_, ab7_, ab16_⟩)
      ·skip
       refine goes_ Try.func50 (by kernel_rfl) rfl #[.pointer (some ⟨g, 0, none⟩), .int .i64 2] (by rfl) rfl rfl ab1_ ?_
       with_reducible refine (spec_l6Rd_pick.calls k g s0_0 t489 2 t493 t494 w0 _ ?side1 ?side2 A5.out).mono ?_
       (case side1 => exact ab12_)
       (case side2 => exact ab16_)
       rintro e w19 ⟨rfl, hi, hb, hk⟩
       refine ⟨_, rfl, ?_⟩
       have n0_ := am (KeepBut.blk hk (g' := gb479) (o := .cells #[.slice none 0 0, .slice none 0 0] 26 (0, 0)) (aG_ BK479.out) NB479_0.out (by simp))
       have n1_ := am (Kd.R_mono (Kd.R_keep (IsS66.apart (show IsS66 w0 _ g s0_0 t489 from by repeat (first | (with_reducible first | exact HI0.out | apply IsS66.alloc | apply IsS66.drewN | apply IsS66.drew | apply IsS66.set_1 | refine IsS66.far ?_ NB0_479.out _ | refine IsS66.far ?_ NB0_487.out _) | exact HI0.out)) (aR_ HO482.out) (by decide)) hk (fun _ h => h.2)) (fun _ h => h.1))
       have n2_ := am (Kd.N_mono (Kd.N_keep (Kd.N_mono (ok := fun k_ => ((((w.heap.size ≤ k_)) ∧ (some k_ ≠ (.slice Ao12 t480.length co12 : Value).ownBlock ∧ (k_ ≠ gb479 ∧ k_ ≠ g))) ∧ k_ ≠ gb487)) (aN_ HO485.out) (fun k_ hk_ => (⟨hk_, hk_.1.2.2.2⟩ : _ ∧ k_ ≠ g))) hk (fun _ h => h.2)) (fun _ h => h.1))
       have n3_ := am (KeepBut.blk hk (g' := gb487) (o := .cells #[.slice Ao12 t480.length co12, .slice Ao16 t483.length co16] 26 (0, 0)) (aG_ BK487.out) NB487_0.out (by simp))
       have n4_ := am (KeepBut.trans ab7_ hk (.inl rfl))
       have n5_ := am (hb)
       have n6_ := am (hi)
       clear BK479
       clear HO482
       clear HO485
       clear BK487
       clear HK
       clear HB
       clear HI0
       have BK479 := n0_
       have HO482 := n1_
       have HO485 := n2_
       have BK487 := n3_
       have HK := n4_
       have HB := n5_
       have HI0 := n6_
       clear n0_ n1_ n2_ n3_ n4_ n5_ n6_
       (try clear hb)
       (try clear hb2)
       (try clear hk)
       (try clear hi)
       refine hK.out _ _ ⟨(blk_cell BK487.out 0).trans rfl, (blk_cell BK487.out 1).trans rfl⟩ (fun hHeld => ?_)
       clear hK K
       refine norm_ (a' := ?_) ?_ ?_
       rotate_left
       ·show Act.put _ (some 14) _ = _
        simp only [Act.put, List.setIfInBounds_toArray, List.set_cons_zero, List.set_cons_succ, i64_w, i32_w]
        rfl
       refine one_ (i := 2) (N := some 12) #[true, true, true, true, true, false, false, false, false, false, false] rfl rfl (one_of HT_.out (by kernel_rfl)) (by decide) (fun K hK => ?_)
       refine Kd.R_lit_step (Kd.int .i64) _ 3 ?hg (N := 12) ?hd (xs := ([0, 5] : List Int)) (inner := [.int .i64 0, .int .i64 5]) (ok := fun _ => True) (okp := fun _ => True) ?hr ?hp (fun _ hk => hk) trivial (Below.refl _ _) (Nat.le_refl _) (by simp) ?_; (case hd => rfl); (case hg => rfl); (case hr => first | (go_simp; done) | (go_simp; rfl)); (case hp => exact (Reps.one (show Kd.M (Kd.int .i64) _ _ _ 0 [.int .i64 0] from rfl) (Reps.one (show Kd.M (Kd.int .i64) _ _ _ 5 [.int .i64 5] from rfl) (Reps.none _ _))))
       intro v491 w20 ho21 hb hg_ hnew_
       clear hg_ hnew_
       (first | rw [← Ny490.out] at ho21 | (simp only [Int.reduceToNat] at ho21; rw [← Ny490.out] at ho21))
       have n0_ := am (Kd.R_elder' (aR_ HO482.out) (Kd.R_base ho21) hb)
       have n1_ := am (Kd.N_elder' (aN_ HO485.out) (Kd.R_base ho21) hb)
       have n2_ := am (Kd.R_lower (Kd.R_new' (Kd.R_newM (M := fun k_ => (w.heap.size ≤ k_)) ho21 (keep_size (w := w) (g := g) (row := none) ab7_) (fun k_ h_ => h_)) (Kd.R_lt (aR_ HO482.out))) (keep_size (w := w) (g := g) (row := none) ab7_))
       have n3_ := am (IsS66.below ab12_ hb)
       have n4_ := am (blk_below (g := gb479) (o := .cells #[.slice none 0 0, .slice none 0 0] 26 (0, 0)) (aG_ BK479.out) hb)
       have n5_ := am (blk_below (g := gb487) (o := .cells #[.slice Ao12 t480.length co12, .slice Ao16 t483.length co16] 26 (0, 0)) (aG_ BK487.out) hb)
       have n6_ := am (KeepBut.trans ab7_ (KeepBut.of_below hb g none) (.inl rfl))
       have n7_ := am (below_step ab16_ hb)
       clear HO482
       clear HO485
       clear HI0
       clear BK479
       clear BK487
       clear HK
       clear HB
       have HO482 := n0_
       have HO485 := n1_
       have HO492 := n2_
       have HI0 := n3_
       have BK479 := n4_
       have BK487 := n5_
       have HK := n6_
       have HB := n7_
       clear n0_ n1_ n2_ n3_ n4_ n5_ n6_ n7_
       clear hb ho21
       obtain ⟨Ao22, co22, eo22⟩ := Kd.R_slice HO492.out
       subst eo22
       obtain ⟨ado22, fo22, _⟩ := Kd.at_int (Kd.R_reads' HO492.out).2.2 0 (by decide) (by rw [Ny490.out]; simp)
       cases fo22
       refine hK.out _ _ ⟨(blk_cell BK487.out 0).trans rfl, (blk_cell BK487.out 1).trans rfl⟩ (fun hHeld => ?_)
       clear hK K
       refine norm_ (a' := ?_) ?_ ?_
       rotate_left
       ·show Act.put _ (some 12) _ = _
        simp only [Act.put, List.setIfInBounds_toArray, List.set_cons_zero, List.set_cons_succ, i64_w, i32_w]
        rfl
       exact norm_ (by simp only [putAll, Act.put, List.setIfInBounds_toArray, List.set_cons_zero, List.set_cons_succ]) (hCont (.slice (some ado22) y490.length co22, ado22) _ ⟨hHeld, (by (with_reducible repeat (first | apply Kd.R_alloc | apply Kd.R_drewN | apply Kd.R_drew)); exact Kd.R_mono HO482.out (fun _ hk => ⟨hk.1.1, hk.2⟩)), (by (with_reducible repeat (first | apply Kd.N_alloc | apply Kd.N_drewN | apply Kd.N_drew)); exact Kd.N_mono HO485.out (fun _ hk => ⟨hk.1.1.1, ⟨hk.1.1.2.1, ⟨hk.2, ⟨hk.1.1.2.2.2, ⟨hk.1.1.2.2.1, hk.1.2⟩⟩⟩⟩⟩)), (by (with_reducible repeat (first | apply Kd.R_alloc | apply Kd.R_drewN | apply Kd.R_drew)); exact Kd.R_mono HO492.out (fun _ hk => ⟨hk.1.1, hk.2⟩)), ⟨_, rfl⟩, (aG_ BK479.out), (aG_ BK487.out), ab12_, ab7_, ab16_⟩)
     rintro ⟨v491, adz_v491⟩ w23 ⟨hS_, h0_, h1_, h2_, h3_, h4_, h5_, h6_, h7_, h8_⟩
     have n0_ : Aside0 (Kd.R (Kd.int .i64) 3 w23 w.heap.size (fun k_ => (w.heap.size ≤ k_) ∧ some k_ ≠ (v491 : Value).ownBlock) (.slice Ao12 t480.length co12) t480) := ⟨h0_⟩
     have n1_ : Aside0 (Kd.N (Kd.slice 37 k37) 31 w23 w.heap.size (fun k_ => (w.heap.size ≤ k_) ∧ some k_ ≠ (.slice Ao12 t480.length co12 : Value).ownBlock ∧ some k_ ≠ (v491 : Value).ownBlock ∧ k_ ≠ g ∧ k_ ≠ gb479 ∧ k_ ≠ gb487) (.slice Ao16 t483.length co16) t483) := ⟨h1_⟩
     have n2_ : Aside0 (Kd.R (Kd.int .i64) 3 w23 w.heap.size (fun k_ => (w.heap.size ≤ k_) ∧ some k_ ≠ (.slice Ao12 t480.length co12 : Value).ownBlock) v491 y490) := ⟨h2_⟩
     have n3_ : Aside0 (∃ c_, (v491 : Value) = .slice (some adz_v491) y490.length c_) := ⟨h3_⟩
     have n4_ : Aside0 (w23.heap[gb479]? = some (.cells #[.slice none 0 0, .slice none 0 0] 26 (0, 0))) := ⟨h4_⟩
     have n5_ : Aside0 (w23.heap[gb487]? = some (.cells #[.slice Ao12 t480.length co12, .slice Ao16 t483.length co16] 26 (0, 0))) := ⟨h5_⟩
     have n6_ : Aside0 (IsS66 w0 w23 g s0_0 t494) := ⟨h6_⟩
     have n7_ : Aside0 (KeepBut w w23 g none) := ⟨h7_⟩
     have n8_ : Aside0 (Below w0.heap.size w0 w23) := ⟨h8_⟩
     clear HO482
     clear HO485
     clear BK479
     clear BK487
     clear HI0
     clear HK
     clear HB
     clear h0_ h1_ h2_ h3_ h4_ h5_ h6_ h7_ h8_
     have HO482 := n0_
     have HO485 := n1_
     have HO492 := n2_
     have HA_HO492 := n3_
     have BK479 := n4_
     have BK487 := n5_
     have HI0 := n6_
     have HK := n7_
     have HB := n8_
     clear n0_ n1_ n2_ n3_ n4_ n5_ n6_ n7_ n8_
     have hHeld : w23.cell? ⟨gb487, 0, none⟩ = some (.slice Ao12 t480.length co12) ∧ w23.cell? ⟨gb487, 1, none⟩ = some (.slice Ao16 t483.length co16) := hS_
     obtain ⟨co24, eo24⟩ := HA_HO492.out
     clear HA_HO492
     subst eo24
     refine norm_ (a' := ?_) ?_ ?_
     rotate_left
     ·simp only [putAll, Act.put, List.setIfInBounds_toArray, List.set_cons_zero, List.set_cons_succ]
      rfl
     refine pure_ (i := 5) (N := some 15) (v := ?_) (a' := ?_) #[true, true, true, true, true, true, false, false, false, false, false] rfl rfl (any_of HT_.out (by kernel_rfl)) (fun _ _ _ h => h) (Or.inl ⟨by rfl, ?_⟩) ?_ ?_
     rotate_left
     ·intro w'
      go_simp
      with_reducible rfl
     rotate_left
     ·simp only [Act.put, List.setIfInBounds_toArray, List.set_cons_zero, List.set_cons_succ, i64_w, i32_w]
      rfl
     refine one_ (i := 6) (N := some 16) #[true, true, true, true, true, true, true, false, false, false, false] rfl rfl (one_of HT_.out (by kernel_rfl)) (by decide) (fun K hK => ?_)
     (have p495 : 0 ≤ (t493 : Int) := of_decide_eq_true (by first | (with_reducible assumption) | assumption); have q495 : t493 < (y490.length : Int) := of_decide_eq_true (by first | (with_reducible assumption) | assumption); obtain ⟨ad495, e495, hx495_0⟩ := Kd.at_int (Kd.R_reads' HO492.out).2.2 t493 p495 q495; obtain rfl : adz_v491 = ad495 := (by injection e495))
     refine value_ (w1 := ?_) (v := ?_) (by rfl) rfl ?_ ?_
     rotate_left 2
     ·go_simp
      constructor
      ·rfl
      ·rfl
     clear hx495_0
     refine hK.out _ _ ⟨(blk_cell BK487.out 0).trans rfl, (blk_cell BK487.out 1).trans rfl⟩ (fun hHeld => ?_)
     clear hK K
     refine norm_ (a' := ?_) ?_ ?_
     rotate_left
     ·show Act.put _ (some 16) _ = _
      simp only [Act.put, List.setIfInBounds_toArray, List.set_cons_zero, List.set_cons_succ, i64_w, i32_w]
      rfl
     refine one_ (i := 7) (N := some 17) #[true, true, true, true, true, true, true, true, false, false, false] rfl rfl (one_of HT_.out (by kernel_rfl)) (by decide) (fun K hK => ?_)
     refine value_ (w1 := ?_) (v := ?_) (by rfl) rfl ?_ ?_
     rotate_left 2
     ·go_simp
      constructor
      ·rfl
      ·rfl
     refine hK.out _ _ ⟨(blk_cell (blk_alloc BK487.out _) 0).trans rfl, (blk_cell (blk_alloc BK487.out _) 1).trans rfl⟩ (fun hHeld => ?_)
     clear hK K
     refine norm_ (a' := ?_) ?_ ?_
     rotate_left
     ·show Act.put _ (some 17) _ = _
      simp only [Act.put, List.setIfInBounds_toArray, List.set_cons_zero, List.set_cons_succ, i64_w, i32_w]
      rfl
     refine one_ (i := 8) (N := some 18) #[true, true, true, true, true, true, true, true, true, false, false] rfl rfl (one_of HT_.out (by kernel_rfl)) (by decide) (fun K hK => ?_)
     refine Kd.R_append_step (Kd.int .i64) w.heap.size (by rfl) (.tmp 11) (.tmp 17) 23 3 (.int .i64 0) 8 rfl Try.underlying23 info3 rfl (by decide) (by omega) (.slice Ao12 t480.length co12) t480 (rd y490 t493) [.int .i64 (rd y490 t493)] (fun k_ => (w.heap.size ≤ k_) ∧ some k_ ≠ (.slice (some adz_v491) y490.length co24 : Value).ownBlock) (fun _ => False) rfl rfl ?aP (fun _ hk => hk.elim) ?aF ?aO (Below.refl _ _) ?aS ?aL ?_
     (case aP => exact rfl)
     (case aF => exact (fun k_ hk => ⟨(Nat.le_trans (keep_size (w := w) (g := g) (row := none) ab7_) hk), Kd.fresh' (Kd.R_lt (aR_ HO492.out)) k_ hk⟩))
     (case aO => exact (aR_ HO482.out))
     (case aS => exact (keep_size (w := w) (g := g) (row := none) ab7_))
     (case aL => have := LMc8.out; omega)
     intro v497 w25 ho hb hg hat
     rw [← Ny496.out] at ho
     have n0_ := am (IsS66.grown ab12_ hg (IsS66.own_ne HI0.out HO482.out (by decide)))
     have n1_ := am (blk_grown (g := gb479) (o := .cells #[.slice none 0 0, .slice none 0 0] 26 (0, 0)) (aG_ BK479.out) hg (Kd.R_ne HO482.out BK479.out (by decide)))
     have n2_ := am (Kd.N_afterv (ok := (fun k_ => (w.heap.size ≤ k_) ∧ some k_ ≠ (.slice (some adz_v491) y490.length co24 : Value).ownBlock ∧ k_ ≠ g ∧ k_ ≠ gb479 ∧ k_ ≠ gb487)) (by (with_reducible repeat (first | apply Kd.N_alloc | apply Kd.N_drewN | apply Kd.N_drew)); exact Kd.N_mono HO485.out (fun _ hk => ⟨⟨hk.1, ⟨hk.2.2.1, ⟨hk.2.2.2.1, ⟨hk.2.2.2.2.1, hk.2.2.2.2.2⟩⟩⟩⟩, hk.2.1⟩)) hg hat)
     have n3_ := am (blk_grown (g := gb487) (o := .cells #[.slice Ao12 t480.length co12, .slice Ao16 t483.length co16] 26 (0, 0)) (aG_ BK487.out) hg (Kd.R_ne HO482.out BK487.out (by decide)))
     have n4_ := am (Kd.R_after (ok := (fun k_ => (w.heap.size ≤ k_))) (aR_ HO492.out) hg hat)
     have n5_ := am (below_weaken ab16_ HL.out hb)
     have n6_ := am (KeepBut.trans ab7_ (KeepBut.of_grown hg g) (Kd.R_base2 HO482.out))
     have n7_ := am (ho)
     clear HI0
     clear BK479
     clear HO485
     clear BK487
     clear HO492
     clear HB
     clear HK
     clear HO482
     have HI0 := n0_
     have BK479 := n1_
     have HO485 := n2_
     have BK487 := n3_
     have HO492 := n4_
     have HB := n5_
     have HK := n6_
     have HO498 := n7_
     clear n0_ n1_ n2_ n3_ n4_ n5_ n6_ n7_
     clear ho hb hg hat
     obtain ⟨Ao26, co26, eo26⟩ := Kd.R_slice HO498.out
     (first | subst eo26 | (injection eo26 with f1_ f2_ f3_; have f4_ := f1_.symm; have f5_ := f3_.symm; clear f1_ f2_ f3_; subst f4_; subst f5_))
     refine hK.out _ _ ⟨(blk_cell BK487.out 0).trans rfl, (blk_cell BK487.out 1).trans rfl⟩ (fun hHeld => ?_)
     clear hK K
     refine norm_ (a' := ?_) ?_ ?_
     rotate_left
     ·show Act.put _ (some 18) _ = _
      simp only [Act.put, List.setIfInBounds_toArray, List.set_cons_zero, List.set_cons_succ, i64_w, i32_w]
      rfl
     refine pure_ (i := 9) (N := some 19) (v := ?_) (a' := ?_) #[true, true, true, true, true, true, true, true, true, true, false] rfl rfl (any_of HT_.out (by kernel_rfl)) (fun _ _ _ h => h) (Or.inl ⟨by rfl, ?_⟩) ?_ ?_
     rotate_left
     ·intro w'
      go_simp
      with_reducible rfl
     rotate_left
     ·simp only [Act.put, List.setIfInBounds_toArray, List.set_cons_zero, List.set_cons_succ, i64_w, i32_w]
      rfl
     refine last_ (i := 10) (N := none) #[true, true, true, true, true, true, true, true, true, true, true] rfl rfl (one_of HT_.out (by kernel_rfl)) (by decide) (fun K hK => ?_)
     have hs27 : w25.cell? ⟨gb487, 0, none⟩ = some (.slice Ao12 t480.length co12) := (blk_cell BK487.out 0).trans rfl
     have hfs27 := blk_frozen BK487.out 0
     have hns27_0 := NB479_487.out
     have hms27_0 := NB487_479.out
     refine skip_ (w1 := ?_) (by rfl) rfl ?_ ?_
     rotate_left
     ·go_simp
      rfl
     refine hK.out _ _ ?_
     clear hK K
     refine done_ (done_of HT_.out (by kernel_rfl)) ?_
     obtain ⟨hcz28_0, hcz28_1, hfz28_0, hfz28_1⟩ := bcf2_ BK487.out
     have hnb29 := NB479_0.out
     have hnc29 := NB0_479.out
     obtain ⟨hcz30_0, hcz30_1, hfz30_0, hfz30_1⟩ := bcf2_ BK479.out
     try go_wp2
     refine bodyPost_ret (results_cell_row rfl _ _ gb479 26 #[.slice Ao26 y496.length co26, .slice Ao16 t483.length co16] (0, 0) _ rfl (by (with_reducible repeat (first | refine blk_drewN ?_ _ | refine blk_drew ?_ | refine blk_alloc ?_ _)); refine blk_put (cs := #[.slice Ao26 y496.length co26, .slice none 0 0]) ?_ 1 _ rfl; (with_reducible repeat (first | refine blk_drewN ?_ _ | refine blk_drew ?_ | refine blk_alloc ?_ _)); refine blk_put (cs := #[.slice none 0 0, .slice none 0 0]) ?_ 0 _ rfl; (with_reducible repeat (first | refine blk_drewN ?_ _ | refine blk_drew ?_ | refine blk_alloc ?_ _)); refine blk_far ?_ NB479_487.out _; (with_reducible repeat (first | refine blk_drewN ?_ _ | refine blk_drew ?_ | refine blk_alloc ?_ _)); exact BK479.out) Try.underlying26 rfl (by kernel_rfl)) rfl ?_
     exact ⟨_, _, ab14_, by (with_reducible repeat (first | apply Kd.R_alloc | apply Kd.R_drewN | apply Kd.R_drew)); exact Kd.R_mono (Kd.R_far (p := ⟨gb479, 1, none⟩) (Kd.R_far (p := ⟨gb479, 0, none⟩) (Kd.R_far (p := ⟨gb487, 0, none⟩) (Kd.R_types (Kd.R_types HO498.out BK487.out (by decide)) BK479.out (by decide)) (fun _ hk => hk.1.2) (.slice Ao26 y496.length co26)) (fun _ hk => hk.2) (.slice Ao26 y496.length co26)) (fun _ hk => hk.2) (.slice Ao16 t483.length co16)) (fun _ hk => hk.1.1.1), by (with_reducible repeat (first | apply Kd.N_alloc | apply Kd.N_drewN | apply Kd.N_drew)); exact Kd.N_mono (Kd.N_far (p := ⟨gb479, 1, none⟩) (Kd.N_far (p := ⟨gb479, 0, none⟩) (Kd.N_far (p := ⟨gb487, 0, none⟩) (Kd.N_mono (Kd.N_mono HO485.out (fun k_ hk => (⟨hk, hk.1.2.2.2.2⟩ : _ ∧ k_ ≠ gb487))) (fun k_ hk => (⟨hk, hk.1.1.2.2.2.1⟩ : _ ∧ k_ ≠ gb479))) (fun _ hk => hk.1.2) (.slice Ao26 y496.length co26)) (fun _ hk => hk.2) (.slice Ao26 y496.length co26)) (fun _ hk => hk.2) (.slice Ao16 t483.length co16)) (fun _ hk => ⟨hk.1.1.1.1, hk.1.1.2⟩), ab12_, ab16_, ab7_⟩
    rw [if_neg c8] at H
    exact absurd H (by simp)
   rw [if_neg c7] at H
   exact absurd H (by simp)
  rw [if_neg c6] at H
  exact absurd H (by simp)
 rw [if_neg c4] at H
 have c4b0 : (t488 == 0) = false := beq_eq_false_iff_ne.mpr c4
 have c4b1 : (t488 != 0) = true := bne_iff_ne.mpr c4
 by_cases c31 : t488 = 1
 ·rw [if_pos c31] at H
  have c31b0 : (t488 == 1) = true := beq_iff_eq.mpr c31
  have c31b1 : (t488 != 1) = false := bne_eq_false_iff_eq.mpr c31
  clear c31
  obtain ⟨⟨t499, t500, t501, t504⟩, A320, H⟩ := bsm H
  (try dsimp only at H)
  have A32 := am A320
  clear A320
  obtain ⟨y505, hy505⟩ : ∃ y_ : List (S37), y_ = (([(⟨4, 0, (t480.length : Int), (⟨t499, t500, t501⟩ : S34), ([] : List (S37)), ([] : List (S37))⟩ : S37)] : List (S37))) := ⟨_, rfl⟩
  replace H : (if t483.length < 5864062014805 then (some (t480, (t483 ++ [y505]), t504)) else (none)) = some (r1, r2, r3) := by first | (rw [hy505]; with_reducible exact H) | (have H2_ := (Option.bind_some _ _).symm.trans H; rw [hy505]; with_reducible exact H2_) | (have H2_ := (Option.bind_some _ _).symm.trans H; with_reducible exact H2_) | with_reducible exact H | (rw [hy505]; exact H) | exact H
  have Ny505 := am hy505
  clear hy505
  by_cases c33 : t483.length < 5864062014805
  ·rw [if_pos c33] at H
   have LMc33 := am c33
   clear c33
   obtain ⟨y508, hy508⟩ : ∃ y_ : List (List (S37)), y_ = (t483 ++ [y505]) := ⟨_, rfl⟩
   replace H : (some (t480, y508, t504)) = some (r1, r2, r3) := by first | (rw [hy508]; with_reducible exact H) | (have H2_ := (Option.bind_some _ _).symm.trans H; rw [hy508]; with_reducible exact H2_) | (have H2_ := (Option.bind_some _ _).symm.trans H; with_reducible exact H2_) | with_reducible exact H | (rw [hy508]; exact H) | exact H
   have Ny508 := am hy508
   clear hy508
   simp only [Option.some.injEq, Prod.mk.injEq] at H
   obtain ⟨rfl, rfl, rfl⟩ := H
   have n9_ := am (TF_N HO485.out)
   clear HO485
   have HO485 := n9_
   clear n9_
   try go_wp2
   have n0_ := am (Kd.R_drew HO482.out)
   have n1_ := am (Kd.N_drew HO485.out)
   have n2_ := am (blk_drew BK479.out)
   have n3_ := am (blk_drew BK487.out)
   have n4_ := am (IsS66.drew HI0.out)
   have n5_ := am (keep_drew HK.out)
   have n6_ := am (below_drew1 HB.out)
   clear HO482
   clear HO485
   clear BK479
   clear BK487
   clear HI0
   clear HK
   clear HB
   have HO482 := n0_
   have HO485 := n1_
   have BK479 := n2_
   have BK487 := n3_
   have HI0 := n4_
   have HK := n5_
   have HB := n6_
   clear n0_ n1_ n2_ n3_ n4_ n5_ n6_
   refine start_ (n := 13) (S := fun w' => w'.cell? ⟨gb487, 0, none⟩ = some (.slice Ao12 t480.length co12) ∧ w'.cell? ⟨gb487, 1, none⟩ = some (.slice Ao16 t483.length co16)) (ds := [12]) #[false, false, false, false, false, false, false, false, false, false, false, false, false] (by kernel_rfl) rfl rfl ⟨(blk_cell BK487.out 0).trans rfl, (blk_cell BK487.out 1).trans rfl⟩ (fun hHeld => ?_); refine with_tabW spec_l92Wrong.tab6 spec_l92Wrong.bits6 (fun HT_ HW_ => ?_)
   generalize w17.drew = w43 at HO482 HO485 BK479 BK487 HI0 HK HB hHeld ⊢
   refine pure_ (i := 0) (N := some 22) (v := ?_) (a' := ?_) #[true, false, false, false, false, false, false, false, false, false, false, false, false] rfl rfl (any_of HT_.out (by kernel_rfl)) (fun _ _ _ h => h) (Or.inl ⟨by rfl, ?_⟩) ?_ ?_
   rotate_left
   ·intro w'
    go_simp
    with_reducible rfl
   rotate_left
   ·simp only [Act.put, List.setIfInBounds_toArray, List.set_cons_zero, List.set_cons_succ, i64_w, i32_w]
    rfl
   refine pure_ (i := 2) (N := some 24) (v := ?_) (a' := ?_) #[true, false, true, false, false, false, false, false, false, false, false, false, false] rfl rfl (any_of HT_.out (by kernel_rfl)) (fun _ _ _ h => h) (Or.inl ⟨by rfl, ?_⟩) ?_ ?_
   rotate_left
   ·intro w'
    go_simp
    with_reducible rfl
   rotate_left
   ·simp only [Act.put, List.setIfInBounds_toArray, List.set_cons_zero, List.set_cons_succ, i64_w, i32_w]
    rfl
   refine pure_ (i := 5) (N := some 27) (v := ?_) (a' := ?_) #[true, false, true, false, false, true, false, false, false, false, false, false, false] rfl rfl (any_of HT_.out (by kernel_rfl)) (fun _ _ _ h => h) (Or.inl ⟨by rfl, ?_⟩) ?_ ?_
   rotate_left
   ·intro w'
    go_simp
    with_reducible rfl
   rotate_left
   ·simp only [Act.put, List.setIfInBounds_toArray, List.set_cons_zero, List.set_cons_succ, i64_w, i32_w]
    rfl
   refine take_ (i := 1) (N := some 23) (v := ?_) (a' := ?_) #[true, true, true, false, false, true, false, false, false, false, false, false, false] rfl rfl (take_ofW HT_.out HW_.out (by kernel_rfl)) (fun _ _ _ h => h) (Or.inl ⟨by rfl, ?_⟩) hHeld ?_ ?_
   rotate_left
   ·rintro w' ⟨s0, s1⟩
    go_simp
    with_reducible rfl
   rotate_left
   ·simp only [Act.put, List.setIfInBounds_toArray, List.set_cons_zero, List.set_cons_succ, i64_w, i32_w]
    rfl
   refine take_ (i := 3) (N := some 25) (v := ?_) (a' := ?_) #[true, true, true, true, false, true, false, false, false, false, false, false, false] rfl rfl (take_ofW HT_.out HW_.out (by kernel_rfl)) (fun _ _ _ h => h) (Or.inl ⟨by rfl, ?_⟩) hHeld ?_ ?_
   rotate_left
   ·rintro w' ⟨s0, s1⟩
    go_simp
    with_reducible rfl
   rotate_left
   ·simp only [Act.put, List.setIfInBounds_toArray, List.set_cons_zero, List.set_cons_succ, i64_w, i32_w]
    rfl
   refine pure_ (i := 4) (N := some 26) (v := ?_) (a' := ?_) #[true, true, true, true, true, true, false, false, false, false, false, false, false] rfl rfl (any_of HT_.out (by kernel_rfl)) (fun _ _ _ h => h) (Or.inl ⟨by rfl, ?_⟩) ?_ ?_
   rotate_left
   ·intro w'
    go_simp
    with_reducible rfl
   rotate_left
   ·simp only [Act.put, List.setIfInBounds_toArray, List.set_cons_zero, List.set_cons_succ, i64_w, i32_w]
    rfl
   refine one_ (i := 6) (N := some 28) #[true, true, true, true, true, true, true, false, false, false, false, false, false] rfl rfl (one_of HT_.out (by kernel_rfl)) (by decide) (fun K hK => ?_)
   refine goes_ Try.func51 (by kernel_rfl) rfl #[.pointer (some ⟨g, 0, none⟩)] (by rfl) rfl rfl ab1_ ?_
   with_reducible refine (spec_l91Leaf.calls k g s0_0 t489 t499 t500 t501 t504 w0 _ ?side1 ?side2 A32.out).mono ?_
   (case side1 => exact ab12_)
   (case side2 => exact ab16_)
   rintro e w44 ⟨v502, rfl, ho0, hi, hb, hk⟩
   refine ⟨_, rfl, ?_⟩
   have n0_ := am (KeepBut.blk hk (g' := gb479) (o := .cells #[.slice none 0 0, .slice none 0 0] 26 (0, 0)) (aG_ BK479.out) NB479_0.out (by simp))
   have n1_ := am (Kd.R_mono (Kd.R_keep (IsS66.apart (show IsS66 w0 _ g s0_0 t489 from by repeat (first | (with_reducible first | exact HI0.out | apply IsS66.alloc | apply IsS66.drewN | apply IsS66.drew | apply IsS66.set_1 | refine IsS66.far ?_ NB0_479.out _ | refine IsS66.far ?_ NB0_487.out _) | exact HI0.out)) (aR_ HO482.out) (by decide)) hk (fun _ h => h.2)) (fun _ h => h.1))
   have n2_ := am (Kd.N_mono (Kd.N_told (Kd.N_oldK (Kd.N_mono (ok := fun k_ => ((((w.heap.size ≤ k_)) ∧ (some k_ ≠ (.slice Ao12 t480.length co12 : Value).ownBlock ∧ (k_ ≠ gb479 ∧ k_ ≠ g))) ∧ k_ ≠ gb487)) (aN_ HO485.out) (fun k_ hk_ => (⟨hk_, hk_.1.2.2.2⟩ : _ ∧ k_ ≠ g))) hk) (by first | exact Kd.N_base ho0 | exact Kd.N_base (Kd.R_N ho0))) (fun _ h_ => h_.1))
   have n3_ := am (KeepBut.blk hk (g' := gb487) (o := .cells #[.slice Ao12 t480.length co12, .slice Ao16 t483.length co16] 26 (0, 0)) (aG_ BK487.out) NB487_0.out (by simp))
   have n4_ := am (Kd.N_lower (Kd.N_mono (ok' := fun k_ => (w.heap.size ≤ k_) ∧ some k_ ≠ (.slice Ao12 t480.length co12 : Value).ownBlock ∧ some k_ ≠ (.slice Ao16 t483.length co16 : Value).ownBlock ∧ k_ ≠ gb479 ∧ k_ ≠ gb487 ∧ k_ ≠ g) (Kd.R_N (Kd.R_bound ho0)) (fun k_ hk_ => ⟨(Nat.le_trans (keep_size (w := w) (g := g) (row := none) ab7_) hk_.2.1), (Kd.fresh' (Kd.R_lt (aR_ HO482.out)) k_ hk_.2.1), (Kd.fresh' (Kd.N_lt (aN_ HO485.out)) k_ hk_.2.1), (Kd.freshB (g := gb479) (o := .cells #[.slice none 0 0, .slice none 0 0] 26 (0, 0)) (aG_ BK479.out) k_ hk_.2.1), (Kd.freshB (g := gb487) (o := .cells #[.slice Ao12 t480.length co12, .slice Ao16 t483.length co16] 26 (0, 0)) (aG_ BK487.out) k_ hk_.2.1), (IsS66.fresh ab12_ k_ hk_.2.1)⟩)) (keep_size (w := w) (g := g) (row := none) ab7_))
   have n5_ := am (KeepBut.trans ab7_ hk (.inl rfl))
   have n6_ := am (hb)
   have n7_ := am (hi)
   clear BK479
   clear HO482
   clear HO485
   clear BK487
   clear HK
   clear HB
   clear HI0
   have BK479 := n0_
   have HO482 := n1_
   have HO485 := n2_
   have BK487 := n3_
   have HO503 := n4_
   have HK := n5_
   have HB := n6_
   have HI0 := n7_
   clear n0_ n1_ n2_ n3_ n4_ n5_ n6_ n7_
   (try clear hb)
   (try clear hb2)
   (try clear hk)
   (try clear hi)
   (try clear ho0)
   obtain ⟨Ao45, co45, eo45⟩ := Kd.N_slice HO503.out
   (first | subst eo45 | (injection eo45 with f1_ f2_ f3_; have f4_ := f1_.symm; have f5_ := f3_.symm; clear f1_ f2_ f3_; subst f4_; subst f5_))
   refine hK.out _ _ ⟨(blk_cell BK487.out 0).trans rfl, (blk_cell BK487.out 1).trans rfl⟩ (fun hHeld => ?_)
   clear hK K
   refine norm_ (a' := ?_) ?_ ?_
   rotate_left
   ·show Act.put _ (some 28) _ = _
    simp only [Act.put, List.setIfInBounds_toArray, List.set_cons_zero, List.set_cons_succ, i64_w, i32_w]
    rfl
   refine pure_ (i := 7) (N := some 29) (v := ?_) (a' := ?_) #[true, true, true, true, true, true, true, true, false, false, false, false, false] rfl rfl (any_of HT_.out (by kernel_rfl)) (fun _ _ _ h => h) (Or.inl ⟨by rfl, ?_⟩) ?_ ?_
   rotate_left
   ·intro w'
    go_simp
    with_reducible rfl
   rotate_left
   ·simp only [Act.put, List.setIfInBounds_toArray, List.set_cons_zero, List.set_cons_succ, i64_w, i32_w]
    rfl
   refine one_ (i := 8) (N := some 30) #[true, true, true, true, true, true, true, true, true, false, false, false, false] rfl rfl (one_of HT_.out (by kernel_rfl)) (by decide) (fun K hK => ?_)
   refine Kd.N_lit_step k37 _ 37 ?hg (N' := 30) ?hd (xs := ([(⟨4, 0, (t480.length : Int), (⟨t499, t500, t501⟩ : S34), ([] : List (S37)), ([] : List (S37))⟩ : S37)] : List (S37))) (inner := [.int .i64 4, .int .i64 0, .int .i64 (t480.length : Int), .int .i64 t499, .int .i64 t500, .slice Ao45 t501.length co45, .slice none 0 0, .slice none 0 0]) (ok := (fun k_ => (w.heap.size ≤ k_) ∧ some k_ ≠ (.slice Ao12 t480.length co12 : Value).ownBlock ∧ some k_ ≠ (.slice Ao16 t483.length co16 : Value).ownBlock ∧ k_ ≠ gb479 ∧ k_ ≠ gb487 ∧ k_ ≠ g)) (okp := (fun k_ => (w.heap.size ≤ k_) ∧ some k_ ≠ (.slice Ao12 t480.length co12 : Value).ownBlock ∧ some k_ ≠ (.slice Ao16 t483.length co16 : Value).ownBlock ∧ k_ ≠ gb479 ∧ k_ ≠ gb487 ∧ k_ ≠ g)) ?hr ?hp (fun _ hk => hk) ((show ∀ k_, w44.heap.size ≤ k_ → (fun k_ => (w.heap.size ≤ k_) ∧ some k_ ≠ (.slice Ao12 t480.length co12 : Value).ownBlock ∧ some k_ ≠ (.slice Ao16 t483.length co16 : Value).ownBlock ∧ k_ ≠ gb479 ∧ k_ ≠ gb487 ∧ k_ ≠ g) k_ from fun k_ hk => ⟨(Nat.le_trans (keep_size (w := w) (g := g) (row := none) ab7_) hk), Kd.fresh' (Kd.R_lt (aR_ HO482.out)) k_ hk, Kd.fresh' (Kd.N_lt (aN_ HO485.out)) k_ hk, Kd.freshB (g := gb479) (o := .cells #[.slice none 0 0, .slice none 0 0] 26 (0, 0)) (aG_ BK479.out) k_ hk, Kd.freshB (g := gb487) (o := .cells #[.slice Ao12 t480.length co12, .slice Ao16 t483.length co16] 26 (0, 0)) (aG_ BK487.out) k_ hk, IsS66.fresh ab12_ k_ hk⟩) _ (Nat.le_refl _)) (Below.refl _ _) (Nat.le_refl _) (by simp) ?_; (case hd => rfl); (case hg => rfl); (case hr => first | (go_simp; done) | (go_simp; rfl)); (case hp => exact (Reps.c8 (show Kd.FK k37 _ _ (⟨4, 0, (t480.length : Int), (⟨t499, t500, t501⟩ : S34), ([] : List (S37)), ([] : List (S37))⟩ : S37) [.int .i64 4, .int .i64 0, .int .i64 (t480.length : Int), .int .i64 t499, .int .i64 t500, .slice Ao45 t501.length co45, .slice none 0 0, .slice none 0 0] from (k37_mkF _ _ (⟨4, 0, (t480.length : Int), (⟨t499, t500, t501⟩ : S34), ([] : List (S37)), ([] : List (S37))⟩ : S37) (Kd.N_reads' (Kd.N_mono (ok' := (fun k_ => (w.heap.size ≤ k_) ∧ some k_ ≠ (.slice Ao12 t480.length co12 : Value).ownBlock ∧ some k_ ≠ (.slice Ao16 t483.length co16 : Value).ownBlock ∧ k_ ≠ gb479 ∧ k_ ≠ gb487 ∧ k_ ≠ g)) (HO503.out) (fun k_ hk => ⟨hk.1, ⟨hk.2.1, ⟨hk.2.2.1, ⟨hk.2.2.2.1, ⟨hk.2.2.2.2.1, hk.2.2.2.2.2⟩⟩⟩⟩⟩))).2.1 (Kd.N_F (Kd.N_mono (ok' := (fun k_ => (w.heap.size ≤ k_) ∧ some k_ ≠ (.slice Ao12 t480.length co12 : Value).ownBlock ∧ some k_ ≠ (.slice Ao16 t483.length co16 : Value).ownBlock ∧ k_ ≠ gb479 ∧ k_ ≠ gb487 ∧ k_ ≠ g)) (HO503.out) (fun k_ hk => ⟨hk.1, ⟨hk.2.1, ⟨hk.2.2.1, ⟨hk.2.2.2.1, ⟨hk.2.2.2.2.1, hk.2.2.2.2.2⟩⟩⟩⟩⟩))) (Nat.le_refl _) (Kd.F_nil _ _ _) (Nat.le_refl _) (Kd.F_nil _ _ _))) (Reps.none _ _)))
   intro v506 w46 ho47 hb hg_ hnew_
   clear hg_ hnew_
   (first | rw [← Ny505.out] at ho47 | (simp only [Int.reduceToNat] at ho47; rw [← Ny505.out] at ho47))
   have n0_ := am (Kd.R_below (aR_ HO482.out) hb)
   have n1_ := am (Kd.N_elder' (aN_ HO485.out) (Kd.N_base ho47) hb)
   have n2_ := am (Kd.N_lower ho47 (keep_size (w := w) (g := g) (row := none) ab7_))
   have n3_ := am (IsS66.below ab12_ hb)
   have n4_ := am (blk_below (g := gb479) (o := .cells #[.slice none 0 0, .slice none 0 0] 26 (0, 0)) (aG_ BK479.out) hb)
   have n5_ := am (blk_below (g := gb487) (o := .cells #[.slice Ao12 t480.length co12, .slice Ao16 t483.length co16] 26 (0, 0)) (aG_ BK487.out) hb)
   have n6_ := am (KeepBut.trans ab7_ (KeepBut.of_below hb g none) (.inl rfl))
   have n7_ := am (below_step ab16_ hb)
   clear HO482
   clear HO485
   clear HI0
   clear BK479
   clear BK487
   clear HK
   clear HB
   clear HO503
   have HO482 := n0_
   have HO485 := n1_
   have HO507 := n2_
   have HI0 := n3_
   have BK479 := n4_
   have BK487 := n5_
   have HK := n6_
   have HB := n7_
   clear n0_ n1_ n2_ n3_ n4_ n5_ n6_ n7_
   clear hb ho47
   obtain ⟨Ao49, co49, eo49⟩ := Kd.N_slice HO507.out
   (first | subst eo49 | (injection eo49 with f1_ f2_ f3_; have f4_ := f1_.symm; have f5_ := f3_.symm; clear f1_ f2_ f3_; subst f4_; subst f5_))
   refine hK.out _ _ ⟨(blk_cell BK487.out 0).trans rfl, (blk_cell BK487.out 1).trans rfl⟩ (fun hHeld => ?_)
   clear hK K
   refine norm_ (a' := ?_) ?_ ?_
   rotate_left
   ·show Act.put _ (some 30) _ = _
    simp only [Act.put, List.setIfInBounds_toArray, List.set_cons_zero, List.set_cons_succ, i64_w, i32_w]
    rfl
   refine one_ (i := 9) (N := some 31) #[true, true, true, true, true, true, true, true, true, true, false, false, false] rfl rfl (one_of HT_.out (by kernel_rfl)) (by decide) (fun K hK => ?_)
   refine value_ (w1 := ?_) (v := ?_) (by rfl) rfl ?_ ?_
   rotate_left 2
   ·go_simp
    constructor
    ·rfl
    ·rfl
   refine hK.out _ _ ⟨(blk_cell (blk_alloc BK487.out _) 0).trans rfl, (blk_cell (blk_alloc BK487.out _) 1).trans rfl⟩ (fun hHeld => ?_)
   clear hK K
   refine norm_ (a' := ?_) ?_ ?_
   rotate_left
   ·show Act.put _ (some 31) _ = _
    simp only [Act.put, List.setIfInBounds_toArray, List.set_cons_zero, List.set_cons_succ, i64_w, i32_w]
    rfl
   refine one_ (i := 10) (N := some 32) #[true, true, true, true, true, true, true, true, true, true, true, false, false] rfl rfl (one_of HT_.out (by kernel_rfl)) (by decide) (fun K hK => ?_)
   refine Kd.N_append_step (Kd.slice 37 k37) w.heap.size (by rfl) (.tmp 23) (.tmp 31) 24 31 (.slice none 0 0) 24 rfl Try.underlying24 info31 rfl (by decide) (by omega) (.slice Ao16 t483.length co16) t483 y505 [.slice Ao49 y505.length co49] (fun k_ => (w.heap.size ≤ k_) ∧ some k_ ≠ (.slice Ao12 t480.length co12 : Value).ownBlock ∧ k_ ≠ gb479 ∧ k_ ≠ gb487 ∧ k_ ≠ g) (fun k_ => ((fun k_ => (w.heap.size ≤ k_) ∧ some k_ ≠ (.slice Ao12 t480.length co12 : Value).ownBlock ∧ k_ ≠ gb479 ∧ k_ ≠ gb487 ∧ k_ ≠ g)) k_ ∧ some k_ ≠ (.slice Ao16 t483.length co16 : Value).ownBlock) rfl rfl ?aP (fun _ hk => hk) ?aF ?aO (Below.refl _ _) ?aS ?aL ?_
   (case aP => exact (Kd.FK_slice_mk (Kd.N_reads' (Kd.N_mono (ok' := (fun k_ => ((fun k_ => (w.heap.size ≤ k_) ∧ some k_ ≠ (.slice Ao12 t480.length co12 : Value).ownBlock ∧ k_ ≠ gb479 ∧ k_ ≠ gb487 ∧ k_ ≠ g)) k_ ∧ some k_ ≠ (.slice Ao16 t483.length co16 : Value).ownBlock)) (HO507.out) (fun k_ hk => ⟨⟨hk.1, ⟨hk.2.1, ⟨hk.2.2.2.1, ⟨hk.2.2.2.2.1, hk.2.2.2.2.2⟩⟩⟩⟩, hk.2.2.1⟩))).2.1 (Kd.N_F (Kd.N_mono (ok' := (fun k_ => ((fun k_ => (w.heap.size ≤ k_) ∧ some k_ ≠ (.slice Ao12 t480.length co12 : Value).ownBlock ∧ k_ ≠ gb479 ∧ k_ ≠ gb487 ∧ k_ ≠ g)) k_ ∧ some k_ ≠ (.slice Ao16 t483.length co16 : Value).ownBlock)) (HO507.out) (fun k_ hk => ⟨⟨hk.1, ⟨hk.2.1, ⟨hk.2.2.2.1, ⟨hk.2.2.2.2.1, hk.2.2.2.2.2⟩⟩⟩⟩, hk.2.2.1⟩)))))
   (case aF => exact (fun k_ hk => ⟨(Nat.le_trans (keep_size (w := w) (g := g) (row := none) ab7_) hk), Kd.fresh' (Kd.R_lt (aR_ HO482.out)) k_ hk, Kd.freshB (g := gb479) (o := .cells #[.slice none 0 0, .slice none 0 0] 26 (0, 0)) (aG_ BK479.out) k_ hk, Kd.freshB (g := gb487) (o := .cells #[.slice Ao12 t480.length co12, .slice Ao16 t483.length co16] 26 (0, 0)) (aG_ BK487.out) k_ hk, IsS66.fresh ab12_ k_ hk⟩))
   (case aO => exact (by (with_reducible repeat (first | apply Kd.N_alloc | apply Kd.N_drewN | apply Kd.N_drew)); exact Kd.N_mono HO485.out (fun _ hk => ⟨hk.1.1.1.1, ⟨hk.1.1.1.2.1, ⟨hk.1.1.1.2.2.1, ⟨hk.1.1.2, hk.1.1.1.2.2.2⟩⟩⟩⟩)))
   (case aS => exact (keep_size (w := w) (g := g) (row := none) ab7_))
   (case aL => have := LMc33.out; omega)
   intro v509 w48 ho hb hg hat
   rw [← Ny508.out] at ho
   have n0_ := am (IsS66.grown ab12_ hg (IsS66.own_neN HI0.out HO485.out (by decide)))
   have n1_ := am (blk_grown (g := gb479) (o := .cells #[.slice none 0 0, .slice none 0 0] 26 (0, 0)) (aG_ BK479.out) hg (Kd.N_ne HO485.out BK479.out (by decide)))
   have n2_ := am (Kd.R_over' (aR_ HO482.out) (Kd.N_typed (aN_ HO485.out)) (by decide) hg)
   have n3_ := am (blk_grown (g := gb487) (o := .cells #[.slice Ao12 t480.length co12, .slice Ao16 t483.length co16] 26 (0, 0)) (aG_ BK487.out) hg (Kd.N_ne HO485.out BK487.out (by decide)))
   have n4_ := am (below_weaken ab16_ HL.out hb)
   have n5_ := am (KeepBut.trans ab7_ (KeepBut.of_grown hg g) (Kd.N_base2 HO485.out))
   have n6_ := am (ho)
   clear HI0
   clear BK479
   clear HO482
   clear BK487
   clear HB
   clear HK
   clear HO485
   clear HO507
   have HI0 := n0_
   have BK479 := n1_
   have HO482 := n2_
   have BK487 := n3_
   have HB := n4_
   have HK := n5_
   have HO510 := n6_
   clear n0_ n1_ n2_ n3_ n4_ n5_ n6_
   clear ho hb hg hat
   obtain ⟨Ao50, co50, eo50⟩ := Kd.N_slice HO510.out
   (first | subst eo50 | (injection eo50 with f1_ f2_ f3_; have f4_ := f1_.symm; have f5_ := f3_.symm; clear f1_ f2_ f3_; subst f4_; subst f5_))
   refine hK.out _ _ ⟨(blk_cell BK487.out 0).trans rfl, (blk_cell BK487.out 1).trans rfl⟩ (fun hHeld => ?_)
   clear hK K
   refine norm_ (a' := ?_) ?_ ?_
   rotate_left
   ·show Act.put _ (some 32) _ = _
    simp only [Act.put, List.setIfInBounds_toArray, List.set_cons_zero, List.set_cons_succ, i64_w, i32_w]
    rfl
   refine pure_ (i := 11) (N := some 33) (v := ?_) (a' := ?_) #[true, true, true, true, true, true, true, true, true, true, true, true, false] rfl rfl (any_of HT_.out (by kernel_rfl)) (fun _ _ _ h => h) (Or.inl ⟨by rfl, ?_⟩) ?_ ?_
   rotate_left
   ·intro w'
    go_simp
    with_reducible rfl
   rotate_left
   ·simp only [Act.put, List.setIfInBounds_toArray, List.set_cons_zero, List.set_cons_succ, i64_w, i32_w]
    rfl
   refine last_ (i := 12) (N := none) #[true, true, true, true, true, true, true, true, true, true, true, true, true] rfl rfl (one_of HT_.out (by kernel_rfl)) (by decide) (fun K hK => ?_)
   have hs51 : w48.cell? ⟨gb487, 1, none⟩ = some (.slice Ao16 t483.length co16) := (blk_cell BK487.out 1).trans rfl
   have hfs51 := blk_frozen BK487.out 1
   have hns51_0 := NB479_487.out
   have hms51_0 := NB487_479.out
   refine skip_ (w1 := ?_) (by rfl) rfl ?_ ?_
   rotate_left
   ·go_simp
    rfl
   refine hK.out _ _ ?_
   clear hK K
   refine done_ (done_of HT_.out (by kernel_rfl)) ?_
   obtain ⟨hcz52_0, hcz52_1, hfz52_0, hfz52_1⟩ := bcf2_ BK487.out
   have hnb53 := NB479_0.out
   have hnc53 := NB0_479.out
   obtain ⟨hcz54_0, hcz54_1, hfz54_0, hfz54_1⟩ := bcf2_ BK479.out
   try go_wp2
   refine bodyPost_ret (results_cell_row rfl _ _ gb479 26 #[.slice Ao12 t480.length co12, .slice Ao50 y508.length co50] (0, 0) _ rfl (by (with_reducible repeat (first | refine blk_drewN ?_ _ | refine blk_drew ?_ | refine blk_alloc ?_ _)); refine blk_put (cs := #[.slice Ao12 t480.length co12, .slice none 0 0]) ?_ 1 _ rfl; (with_reducible repeat (first | refine blk_drewN ?_ _ | refine blk_drew ?_ | refine blk_alloc ?_ _)); refine blk_put (cs := #[.slice none 0 0, .slice none 0 0]) ?_ 0 _ rfl; (with_reducible repeat (first | refine blk_drewN ?_ _ | refine blk_drew ?_ | refine blk_alloc ?_ _)); refine blk_far ?_ NB479_487.out _; (with_reducible repeat (first | refine blk_drewN ?_ _ | refine blk_drew ?_ | refine blk_alloc ?_ _)); exact BK479.out) Try.underlying26 rfl (by kernel_rfl)) rfl ?_
   exact ⟨_, _, ab14_, by (with_reducible repeat (first | apply Kd.R_alloc | apply Kd.R_drewN | apply Kd.R_drew)); exact Kd.R_mono (Kd.R_far (p := ⟨gb479, 1, none⟩) (Kd.R_far (p := ⟨gb479, 0, none⟩) (Kd.R_far (p := ⟨gb487, 1, none⟩) (Kd.R_types (Kd.R_types HO482.out BK487.out (by decide)) BK479.out (by decide)) (fun _ hk => hk.1.2) (.slice Ao50 y508.length co50)) (fun _ hk => hk.2) (.slice Ao12 t480.length co12)) (fun _ hk => hk.2) (.slice Ao50 y508.length co50)) (fun _ hk => hk.1.1.1), by (with_reducible repeat (first | apply Kd.N_alloc | apply Kd.N_drewN | apply Kd.N_drew)); exact Kd.N_mono (Kd.N_far (p := ⟨gb479, 1, none⟩) (Kd.N_far (p := ⟨gb479, 0, none⟩) (Kd.N_far (p := ⟨gb487, 1, none⟩) (Kd.N_mono (Kd.N_mono HO510.out (fun k_ hk => (⟨hk, hk.2.2.2.1⟩ : _ ∧ k_ ≠ gb487))) (fun k_ hk => (⟨hk, hk.1.2.2.1⟩ : _ ∧ k_ ≠ gb479))) (fun _ hk => hk.1.2) (.slice Ao50 y508.length co50)) (fun _ hk => hk.2) (.slice Ao12 t480.length co12)) (fun _ hk => hk.2) (.slice Ao50 y508.length co50)) (fun _ hk => ⟨hk.1.1.1, hk.1.1.2.1⟩), ab12_, ab16_, ab7_⟩
  rw [if_neg c33] at H
  exact absurd H (by simp)
 rw [if_neg c31] at H
 have c31b0 : (t488 == 1) = false := beq_eq_false_iff_ne.mpr c31
 have c31b1 : (t488 != 1) = true := bne_iff_ne.mpr c31
 by_cases c55 : t488 = 2
 ·rw [if_pos c55] at H
  have c55b0 : (t488 == 2) = true := beq_iff_eq.mpr c55
  have c55b1 : (t488 != 2) = false := bne_eq_false_iff_eq.mpr c55
  clear c55
  obtain ⟨y511, hy511⟩ : ∃ y_ : List (List (S37)), y_ = (([] : List (List (S37)))) := ⟨_, rfl⟩
  replace H : (some (t480, y511, t489)) = some (r1, r2, r3) := by first | (rw [hy511]; with_reducible exact H) | (have H2_ := (Option.bind_some _ _).symm.trans H; rw [hy511]; with_reducible exact H2_) | (have H2_ := (Option.bind_some _ _).symm.trans H; with_reducible exact H2_) | with_reducible exact H | (rw [hy511]; exact H) | exact H
  have Ny511 := am hy511
  clear hy511
  simp only [Option.some.injEq, Prod.mk.injEq] at H
  obtain ⟨rfl, rfl, rfl⟩ := H
  have n9_ := am (TF_N HO485.out)
  clear HO485
  have HO485 := n9_
  clear n9_
  go_wp2_with (first | ((with_reducible refine gate_dst (N := 36) rfl ?_); refine Kd.N_lit (Kd.slice 37 k37) _ 31 ?hg (N' := 36) ?hd (xs := ([] : List (List (S37)))) (inner := []) (ok := (fun k_ => (w.heap.size ≤ k_) ∧ some k_ ≠ (.slice Ao12 t480.length co12 : Value).ownBlock ∧ some k_ ≠ (.slice Ao16 t483.length co16 : Value).ownBlock ∧ k_ ≠ gb479 ∧ k_ ≠ gb487 ∧ k_ ≠ g)) (okp := (fun k_ => (w.heap.size ≤ k_) ∧ some k_ ≠ (.slice Ao12 t480.length co12 : Value).ownBlock ∧ some k_ ≠ (.slice Ao16 t483.length co16 : Value).ownBlock ∧ k_ ≠ gb479 ∧ k_ ≠ gb487 ∧ k_ ≠ g)) ?hr ?hp (fun _ hk => hk) ((show ∀ k_, w17.heap.size ≤ k_ → (fun k_ => (w.heap.size ≤ k_) ∧ some k_ ≠ (.slice Ao12 t480.length co12 : Value).ownBlock ∧ some k_ ≠ (.slice Ao16 t483.length co16 : Value).ownBlock ∧ k_ ≠ gb479 ∧ k_ ≠ gb487 ∧ k_ ≠ g) k_ from fun k_ hk => ⟨(Nat.le_trans (keep_size (w := w) (g := g) (row := none) ab7_) hk), Kd.fresh' (Kd.R_lt (aR_ HO482.out)) k_ hk, Kd.fresh' (Kd.N_lt (aN_ HO485.out)) k_ hk, Kd.freshB (g := gb479) (o := .cells #[.slice none 0 0, .slice none 0 0] 26 (0, 0)) (aG_ BK479.out) k_ hk, Kd.freshB (g := gb487) (o := .cells #[.slice Ao12 t480.length co12, .slice Ao16 t483.length co16] 26 (0, 0)) (aG_ BK487.out) k_ hk, IsS66.fresh ab12_ k_ hk⟩) _ (Nat.le_refl _)) (Below.refl _ _) (Nat.le_refl _) (by simp) ?_; (case hd => rfl); (case hg => rfl); (case hr => first | (go_simp; done) | (go_simp; rfl)); (case hp => exact (Reps.none _ _)); intro v512 w65 ho66 hb hg_ hnew_; clear hg_ hnew_; (first | rw [← Ny511.out] at ho66 | (simp only [Int.reduceToNat] at ho66; rw [← Ny511.out] at ho66)); have n0_ := am (Kd.R_below (aR_ HO482.out) hb); have n1_ := am (Kd.N_elder' (aN_ HO485.out) (Kd.N_base ho66) hb); have n2_ := am (Kd.N_lower ho66 (keep_size (w := w) (g := g) (row := none) ab7_)); have n3_ := am (IsS66.below ab12_ hb); have n4_ := am (blk_below (g := gb479) (o := .cells #[.slice none 0 0, .slice none 0 0] 26 (0, 0)) (aG_ BK479.out) hb); have n5_ := am (blk_below (g := gb487) (o := .cells #[.slice Ao12 t480.length co12, .slice Ao16 t483.length co16] 26 (0, 0)) (aG_ BK487.out) hb); have n6_ := am (KeepBut.trans ab7_ (KeepBut.of_below hb g none) (.inl rfl)); have n7_ := am (below_step ab16_ hb); clear HO482 HO485 HI0 BK479 BK487 HK HB; have HO482 := n0_; have HO485 := n1_; have HO513 := n2_; have HI0 := n3_; have BK479 := n4_; have BK487 := n5_; have HK := n6_; have HB := n7_; clear n0_ n1_ n2_ n3_ n4_ n5_ n6_ n7_ hb ho66; obtain ⟨Ao67, co67, eo67⟩ := Kd.N_slice HO513.out; subst eo67; obtain ⟨hcz68_0, hcz68_1, hfz68_0, hfz68_1⟩ := bcf2_ BK487.out; have hnb69 := NB479_0.out; have hnc69 := NB0_479.out; obtain ⟨hcz70_0, hcz70_1, hfz70_0, hfz70_1⟩ := bcf2_ BK479.out))
  refine bodyPost_ret (results_cell_row rfl _ _ gb479 26 #[.slice Ao12 t480.length co12, .slice Ao67 y511.length co67] (0, 0) _ rfl (by (with_reducible repeat (first | refine blk_drewN ?_ _ | refine blk_drew ?_ | refine blk_alloc ?_ _)); refine blk_put (cs := #[.slice Ao12 t480.length co12, .slice none 0 0]) ?_ 1 _ rfl; (with_reducible repeat (first | refine blk_drewN ?_ _ | refine blk_drew ?_ | refine blk_alloc ?_ _)); refine blk_put (cs := #[.slice none 0 0, .slice none 0 0]) ?_ 0 _ rfl; (with_reducible repeat (first | refine blk_drewN ?_ _ | refine blk_drew ?_ | refine blk_alloc ?_ _)); refine blk_far ?_ NB479_487.out _; (with_reducible repeat (first | refine blk_drewN ?_ _ | refine blk_drew ?_ | refine blk_alloc ?_ _)); exact BK479.out) Try.underlying26 rfl (by kernel_rfl)) rfl ?_
  exact ⟨_, _, ab14_, by (with_reducible repeat (first | apply Kd.R_alloc | apply Kd.R_drewN | apply Kd.R_drew)); exact Kd.R_mono (Kd.R_far (p := ⟨gb479, 1, none⟩) (Kd.R_far (p := ⟨gb479, 0, none⟩) (Kd.R_far (p := ⟨gb487, 1, none⟩) (Kd.R_types (Kd.R_types HO482.out BK487.out (by decide)) BK479.out (by decide)) (fun _ hk => hk.1.2) (.slice Ao67 y511.length co67)) (fun _ hk => hk.2) (.slice Ao12 t480.length co12)) (fun _ hk => hk.2) (.slice Ao67 y511.length co67)) (fun _ hk => hk.1.1.1), by (with_reducible repeat (first | apply Kd.N_alloc | apply Kd.N_drewN | apply Kd.N_drew)); exact Kd.N_mono (Kd.N_far (p := ⟨gb479, 1, none⟩) (Kd.N_far (p := ⟨gb479, 0, none⟩) (Kd.N_far (p := ⟨gb487, 1, none⟩) (Kd.N_mono (Kd.N_mono HO513.out (fun k_ hk => (⟨hk, hk.2.2.2.2.1⟩ : _ ∧ k_ ≠ gb487))) (fun k_ hk => (⟨hk, hk.1.2.2.2.1⟩ : _ ∧ k_ ≠ gb479))) (fun _ hk => hk.1.2) (.slice Ao67 y511.length co67)) (fun _ hk => hk.2) (.slice Ao12 t480.length co12)) (fun _ hk => hk.2) (.slice Ao67 y511.length co67)) (fun _ hk => ⟨hk.1.1.1, hk.1.1.2.1⟩), ab12_, ab16_, ab7_⟩
 rw [if_neg c55] at H
 have c55b0 : (t488 == 2) = false := beq_eq_false_iff_ne.mpr c55
 have c55b1 : (t488 != 2) = true := bne_iff_ne.mpr c55
 by_cases c71 : t488 = 3
 ·rw [if_pos c71] at H
  have c71b0 : (t488 == 3) = true := beq_iff_eq.mpr c71
  have c71b1 : (t488 != 3) = false := bne_eq_false_iff_eq.mpr c71
  clear c71
  by_cases c72 : 0 < (t483.length : Int)
  ·rw [if_pos c72] at H
   have c72b0 : decide (0 < (t483.length : Int)) = true := decide_eq_true c72
   have c72b1 : decide (0 < t483.length) = true := decide_eq_true (by omega)
   clear c72
   obtain ⟨y517, hy517⟩ : ∃ y_ : List (List (S37)), y_ = (([rd_L4 t483 0, rd_L4 t483 0, rd_L4 t483 0] : List (List (S37)))) := ⟨_, rfl⟩
   replace H : (if t483.length + y517.length < 5864062014805 then (some (t480, (t483 ++ y517), t489)) else (none)) = some (r1, r2, r3) := by first | (rw [hy517]; with_reducible exact H) | (have H2_ := (Option.bind_some _ _).symm.trans H; rw [hy517]; with_reducible exact H2_) | (have H2_ := (Option.bind_some _ _).symm.trans H; with_reducible exact H2_) | with_reducible exact H | (rw [hy517]; exact H) | exact H
   have Ny517 := am hy517
   clear hy517
   by_cases c73 : t483.length + y517.length < 5864062014805
   ·rw [if_pos c73] at H
    have LMc73 := am c73
    clear c73
    obtain ⟨y520, hy520⟩ : ∃ y_ : List (List (S37)), y_ = (t483 ++ y517) := ⟨_, rfl⟩
    replace H : (some (t480, y520, t489)) = some (r1, r2, r3) := by first | (rw [hy520]; with_reducible exact H) | (have H2_ := (Option.bind_some _ _).symm.trans H; rw [hy520]; with_reducible exact H2_) | (have H2_ := (Option.bind_some _ _).symm.trans H; with_reducible exact H2_) | with_reducible exact H | (rw [hy520]; exact H) | exact H
    have Ny520 := am hy520
    clear hy520
    simp only [Option.some.injEq, Prod.mk.injEq] at H
    obtain ⟨rfl, rfl, rfl⟩ := H
    have n9_ := am (TF_N HO485.out)
    clear HO485
    have HO485 := n9_
    clear n9_
    try go_wp2
    have n0_ := am (Kd.R_drew HO482.out)
    have n1_ := am (Kd.N_drew HO485.out)
    have n2_ := am (blk_drew BK479.out)
    have n3_ := am (blk_drew BK487.out)
    have n4_ := am (IsS66.drew HI0.out)
    have n5_ := am (keep_drew HK.out)
    have n6_ := am (below_drew1 HB.out)
    clear HO482
    clear HO485
    clear BK479
    clear BK487
    clear HI0
    clear HK
    clear HB
    have HO482 := n0_
    have HO485 := n1_
    have BK479 := n2_
    have BK487 := n3_
    have HI0 := n4_
    have HK := n5_
    have HB := n6_
    clear n0_ n1_ n2_ n3_ n4_ n5_ n6_
    have p514 : 0 ≤ (0 : Int) := (by omega)
    have q514 : 0 < (t483.length : Int) := of_decide_eq_true (by first | (with_reducible assumption) | assumption)
    obtain ⟨ad514, A514_0, c514_0, e514, hx514_0, hl514_0, hi514_0⟩ := at_L4 (Kd.N_reads' HO485.out).2.2 0 p514 q514
    cases e514
    obtain ⟨ce514, hce514, hMe514, hcc514⟩ := Kd.N_get HO485.out [] 0 p514 (by first | exact q514 | exact of_decide_eq_true (by first | (with_reducible assumption) | assumption) | (have e_ := (Kd.N_reads' HO485.out).1; omega))
    obtain ⟨ua514_0, uc514_0, rfl, ul514_0, ge514_0⟩ := Kd.FK_slice_open hMe514
    have hv514_0 := hcc514 0 _ rfl
    rw [Nat.add_zero, show ((Kd.slice 37 k37)).sz = 1 from rfl, Nat.mul_one] at hv514_0
    replace hv514_0 := Option.some.inj (hv514_0.symm.trans hx514_0)
    injection hv514_0 with hva_ hvn_ hvc_
    rw [hva_] at ge514_0
    rw [hvc_] at ul514_0
    have HL514_0 := am (show Kd.V k37 37 _ w.heap.size _ _ (rd_L4 t483 0) from Kd.V_mk ul514_0 ge514_0)
    clear hva_ hvn_ hvc_ ge514_0 ul514_0
    clear hcc514 hce514
    have qi514 : (0 < t483.length) = True := eq_true (by omega)
    (try rw [show ((0 : Int)).toNat = 0 from rfl] at hx514_0)
    (try rw [Addr.add_zero'] at hx514_0)
    have HR514_0 := am hi514_0
    have HC514_0 := am hl514_0
    clear hi514_0 hl514_0
    replace p514 := eq_true p514
    replace q514 := eq_true q514
    have p515 : 0 ≤ (0 : Int) := (by omega)
    have q515 : 0 < (t483.length : Int) := of_decide_eq_true (by first | (with_reducible assumption) | assumption)
    obtain ⟨ad515, A515_0, c515_0, e515, hx515_0, hl515_0, hi515_0⟩ := at_L4 (Kd.N_reads' HO485.out).2.2 0 p515 q515
    obtain rfl : ad514 = ad515 := (by injection e515)
    obtain ⟨ce515, hce515, hMe515, hcc515⟩ := Kd.N_get HO485.out [] 0 p515 (by first | exact q515 | exact of_decide_eq_true (by first | (with_reducible assumption) | assumption) | (have e_ := (Kd.N_reads' HO485.out).1; omega))
    obtain ⟨ua515_0, uc515_0, rfl, ul515_0, ge515_0⟩ := Kd.FK_slice_open hMe515
    have hv515_0 := hcc515 0 _ rfl
    rw [Nat.add_zero, show ((Kd.slice 37 k37)).sz = 1 from rfl, Nat.mul_one] at hv515_0
    replace hv515_0 := Option.some.inj (hv515_0.symm.trans hx515_0)
    injection hv515_0 with hva_ hvn_ hvc_
    rw [hva_] at ge515_0
    rw [hvc_] at ul515_0
    have HL515_0 := am (show Kd.V k37 37 _ w.heap.size _ _ (rd_L4 t483 0) from Kd.V_mk ul515_0 ge515_0)
    clear hva_ hvn_ hvc_ ge515_0 ul515_0
    clear hcc515 hce515
    have qi515 : (0 < t483.length) = True := eq_true (by omega)
    (try rw [show ((0 : Int)).toNat = 0 from rfl] at hx515_0)
    (try rw [Addr.add_zero'] at hx515_0)
    have HR515_0 := am hi515_0
    have HC515_0 := am hl515_0
    clear hi515_0 hl515_0
    replace p515 := eq_true p515
    replace q515 := eq_true q515
    have ea_ := Option.some.inj (hx514_0.symm.trans hx515_0)
    injection ea_ with ea_ en_ ec_
    subst ea_
    subst ec_
    clear en_
    have p516 : 0 ≤ (0 : Int) := (by omega)
    have q516 : 0 < (t483.length : Int) := of_decide_eq_true (by first | (with_reducible assumption) | assumption)
    obtain ⟨ad516, A516_0, c516_0, e516, hx516_0, hl516_0, hi516_0⟩ := at_L4 (Kd.N_reads' HO485.out).2.2 0 p516 q516
    obtain rfl : ad514 = ad516 := (by injection e516)
    obtain ⟨ce516, hce516, hMe516, hcc516⟩ := Kd.N_get HO485.out [] 0 p516 (by first | exact q516 | exact of_decide_eq_true (by first | (with_reducible assumption) | assumption) | (have e_ := (Kd.N_reads' HO485.out).1; omega))
    obtain ⟨ua516_0, uc516_0, rfl, ul516_0, ge516_0⟩ := Kd.FK_slice_open hMe516
    have hv516_0 := hcc516 0 _ rfl
    rw [Nat.add_zero, show ((Kd.slice 37 k37)).sz = 1 from rfl, Nat.mul_one] at hv516_0
    replace hv516_0 := Option.some.inj (hv516_0.symm.trans hx516_0)
    injection hv516_0 with hva_ hvn_ hvc_
    rw [hva_] at ge516_0
    rw [hvc_] at ul516_0
    have HL516_0 := am (show Kd.V k37 37 _ w.heap.size _ _ (rd_L4 t483 0) from Kd.V_mk ul516_0 ge516_0)
    clear hva_ hvn_ hvc_ ge516_0 ul516_0
    clear hcc516 hce516
    have qi516 : (0 < t483.length) = True := eq_true (by omega)
    (try rw [show ((0 : Int)).toNat = 0 from rfl] at hx516_0)
    (try rw [Addr.add_zero'] at hx516_0)
    have HR516_0 := am hi516_0
    have HC516_0 := am hl516_0
    clear hi516_0 hl516_0
    replace p516 := eq_true p516
    replace q516 := eq_true q516
    have ea_ := Option.some.inj (hx514_0.symm.trans hx516_0)
    injection ea_ with ea_ en_ ec_
    subst ea_
    subst ec_
    clear en_
    refine start_ (n := 18) (S := fun w' => w'.cell? ⟨gb487, 0, none⟩ = some (.slice Ao12 t480.length co12) ∧ w'.cell? ⟨gb487, 1, none⟩ = some (.slice (some ad514) t483.length co16) ∧ w'.cell? ad514 = some (.slice A514_0 (rd_L4 t483 0).length c514_0) ∧ w'.cell? ad514 = some (.slice A514_0 (rd_L4 t483 0).length c514_0) ∧ w'.cell? ad514 = some (.slice A514_0 (rd_L4 t483 0).length c514_0)) (ds := [15, 17]) #[false, false, false, false, false, false, false, false, false, false, false, false, false, false, false, false, false, false] (by kernel_rfl) rfl rfl ⟨(blk_cell BK487.out 0).trans rfl, (blk_cell BK487.out 1).trans rfl, hx514_0, hx515_0, hx516_0⟩ (fun hHeld => ?_); refine with_tabW spec_l92Wrong.tab10 spec_l92Wrong.bits10 (fun HT_ HW_ => ?_)
    generalize w17.drew = w83 at HO482 HO485 BK479 BK487 HI0 HK HB HL514_0 HL515_0 HL516_0 HR514_0 HR515_0 HR516_0 hx514_0 hx515_0 hx516_0 hHeld ⊢
    refine pure_ (i := 0) (N := some 40) (v := ?_) (a' := ?_) #[true, false, false, false, false, false, false, false, false, false, false, false, false, false, false, false, false, false] rfl rfl (any_of HT_.out (by kernel_rfl)) (fun _ _ _ h => h) (Or.inl ⟨by rfl, ?_⟩) ?_ ?_
    rotate_left
    ·intro w'
     go_simp
     with_reducible rfl
    rotate_left
    ·simp only [Act.put, List.setIfInBounds_toArray, List.set_cons_zero, List.set_cons_succ, i64_w, i32_w]
     rfl
    refine pure_ (i := 2) (N := some 42) (v := ?_) (a' := ?_) #[true, false, true, false, false, false, false, false, false, false, false, false, false, false, false, false, false, false] rfl rfl (any_of HT_.out (by kernel_rfl)) (fun _ _ _ h => h) (Or.inl ⟨by rfl, ?_⟩) ?_ ?_
    rotate_left
    ·intro w'
     go_simp
     with_reducible rfl
    rotate_left
    ·simp only [Act.put, List.setIfInBounds_toArray, List.set_cons_zero, List.set_cons_succ, i64_w, i32_w]
     rfl
    refine pure_ (i := 6) (N := some 46) (v := ?_) (a' := ?_) #[true, false, true, false, false, false, true, false, false, false, false, false, false, false, false, false, false, false] rfl rfl (any_of HT_.out (by kernel_rfl)) (fun _ _ _ h => h) (Or.inl ⟨by rfl, ?_⟩) ?_ ?_
    rotate_left
    ·intro w'
     go_simp
     with_reducible rfl
    rotate_left
    ·simp only [Act.put, List.setIfInBounds_toArray, List.set_cons_zero, List.set_cons_succ, i64_w, i32_w]
     rfl
    refine pure_ (i := 10) (N := some 50) (v := ?_) (a' := ?_) #[true, false, true, false, false, false, true, false, false, false, true, false, false, false, false, false, false, false] rfl rfl (any_of HT_.out (by kernel_rfl)) (fun _ _ _ h => h) (Or.inl ⟨by rfl, ?_⟩) ?_ ?_
    rotate_left
    ·intro w'
     go_simp
     with_reducible rfl
    rotate_left
    ·simp only [Act.put, List.setIfInBounds_toArray, List.set_cons_zero, List.set_cons_succ, i64_w, i32_w]
     rfl
    refine take_ (i := 1) (N := some 41) (v := ?_) (a' := ?_) #[true, true, true, false, false, false, true, false, false, false, true, false, false, false, false, false, false, false] rfl rfl (take_ofW HT_.out HW_.out (by kernel_rfl)) (fun _ _ _ h => h) (Or.inl ⟨by rfl, ?_⟩) hHeld ?_ ?_
    rotate_left
    ·rintro w' ⟨s0, s1, s2, s3, s4⟩
     go_simp
     with_reducible rfl
    rotate_left
    ·simp only [Act.put, List.setIfInBounds_toArray, List.set_cons_zero, List.set_cons_succ, i64_w, i32_w]
     rfl
    refine take_ (i := 3) (N := some 43) (v := ?_) (a' := ?_) #[true, true, true, true, false, false, true, false, false, false, true, false, false, false, false, false, false, false] rfl rfl (take_ofW HT_.out HW_.out (by kernel_rfl)) (fun _ _ _ h => h) (Or.inl ⟨by rfl, ?_⟩) hHeld ?_ ?_
    rotate_left
    ·rintro w' ⟨s0, s1, s2, s3, s4⟩
     go_simp
     with_reducible rfl
    rotate_left
    ·simp only [Act.put, List.setIfInBounds_toArray, List.set_cons_zero, List.set_cons_succ, i64_w, i32_w]
     rfl
    refine pure_ (i := 4) (N := some 44) (v := ?_) (a' := ?_) #[true, true, true, true, true, false, true, false, false, false, true, false, false, false, false, false, false, false] rfl rfl (any_of HT_.out (by kernel_rfl)) (fun _ _ _ h => h) (Or.inl ⟨by rfl, ?_⟩) ?_ ?_
    rotate_left
    ·intro w'
     go_simp
     with_reducible rfl
    rotate_left
    ·simp only [Act.put, List.setIfInBounds_toArray, List.set_cons_zero, List.set_cons_succ, i64_w, i32_w]
     rfl
    refine take_ (i := 5) (N := some 45) (v := ?_) (a' := ?_) #[true, true, true, true, true, true, true, false, false, false, true, false, false, false, false, false, false, false] rfl rfl (take_ofW HT_.out HW_.out (by kernel_rfl)) (fun _ _ _ h => h) (Or.inl ⟨by rfl, ?_⟩) hHeld ?_ ?_
    rotate_left
    ·rintro w' ⟨s0, s1, s2, s3, s4⟩
     go_simp
     with_reducible rfl
    rotate_left
    ·simp only [Act.put, List.setIfInBounds_toArray, List.set_cons_zero, List.set_cons_succ, i64_w, i32_w]
     rfl
    refine take_ (i := 7) (N := some 47) (v := ?_) (a' := ?_) #[true, true, true, true, true, true, true, true, false, false, true, false, false, false, false, false, false, false] rfl rfl (take_ofW HT_.out HW_.out (by kernel_rfl)) (fun _ _ _ h => h) (Or.inl ⟨by rfl, ?_⟩) hHeld ?_ ?_
    rotate_left
    ·rintro w' ⟨s0, s1, s2, s3, s4⟩
     go_simp
     with_reducible rfl
    rotate_left
    ·simp only [Act.put, List.setIfInBounds_toArray, List.set_cons_zero, List.set_cons_succ, i64_w, i32_w]
     rfl
    refine pure_ (i := 8) (N := some 48) (v := ?_) (a' := ?_) #[true, true, true, true, true, true, true, true, true, false, true, false, false, false, false, false, false, false] rfl rfl (any_of HT_.out (by kernel_rfl)) (fun _ _ _ h => h) (Or.inl ⟨by rfl, ?_⟩) ?_ ?_
    rotate_left
    ·intro w'
     go_simp
     with_reducible rfl
    rotate_left
    ·simp only [Act.put, List.setIfInBounds_toArray, List.set_cons_zero, List.set_cons_succ, i64_w, i32_w]
     rfl
    refine take_ (i := 9) (N := some 49) (v := ?_) (a' := ?_) #[true, true, true, true, true, true, true, true, true, true, true, false, false, false, false, false, false, false] rfl rfl (take_ofW HT_.out HW_.out (by kernel_rfl)) (fun _ _ _ h => h) (Or.inl ⟨by rfl, ?_⟩) hHeld ?_ ?_
    rotate_left
    ·rintro w' ⟨s0, s1, s2, s3, s4⟩
     go_simp
     with_reducible rfl
    rotate_left
    ·simp only [Act.put, List.setIfInBounds_toArray, List.set_cons_zero, List.set_cons_succ, i64_w, i32_w]
     rfl
    refine take_ (i := 11) (N := some 51) (v := ?_) (a' := ?_) #[true, true, true, true, true, true, true, true, true, true, true, true, false, false, false, false, false, false] rfl rfl (take_ofW HT_.out HW_.out (by kernel_rfl)) (fun _ _ _ h => h) (Or.inl ⟨by rfl, ?_⟩) hHeld ?_ ?_
    rotate_left
    ·rintro w' ⟨s0, s1, s2, s3, s4⟩
     go_simp
     with_reducible rfl
    rotate_left
    ·simp only [Act.put, List.setIfInBounds_toArray, List.set_cons_zero, List.set_cons_succ, i64_w, i32_w]
     rfl
    refine pure_ (i := 12) (N := some 52) (v := ?_) (a' := ?_) #[true, true, true, true, true, true, true, true, true, true, true, true, true, false, false, false, false, false] rfl rfl (any_of HT_.out (by kernel_rfl)) (fun _ _ _ h => h) (Or.inl ⟨by rfl, ?_⟩) ?_ ?_
    rotate_left
    ·intro w'
     go_simp
     with_reducible rfl
    rotate_left
    ·simp only [Act.put, List.setIfInBounds_toArray, List.set_cons_zero, List.set_cons_succ, i64_w, i32_w]
     rfl
    refine take_ (i := 13) (N := some 53) (v := ?_) (a' := ?_) #[true, true, true, true, true, true, true, true, true, true, true, true, true, true, false, false, false, false] rfl rfl (take_ofW HT_.out HW_.out (by kernel_rfl)) (fun _ _ _ h => h) (Or.inl ⟨by rfl, ?_⟩) hHeld ?_ ?_
    rotate_left
    ·rintro w' ⟨s0, s1, s2, s3, s4⟩
     go_simp
     with_reducible rfl
    rotate_left
    ·simp only [Act.put, List.setIfInBounds_toArray, List.set_cons_zero, List.set_cons_succ, i64_w, i32_w]
     rfl
    refine one_ (i := 14) (N := some 54) #[true, true, true, true, true, true, true, true, true, true, true, true, true, true, true, false, false, false] rfl rfl (one_of HT_.out (by kernel_rfl)) (by decide) (fun K hK => ?_)
    refine Kd.N_lit_step (Kd.slice 37 k37) _ 31 ?hg (N' := 54) ?hd (xs := ([rd_L4 t483 0, rd_L4 t483 0, rd_L4 t483 0] : List (List (S37)))) (inner := [.slice A514_0 (rd_L4 t483 0).length c514_0, .slice A514_0 (rd_L4 t483 0).length c514_0, .slice A514_0 (rd_L4 t483 0).length c514_0]) (ok := (fun k_ => (w.heap.size ≤ k_) ∧ some k_ ≠ (.slice Ao12 t480.length co12 : Value).ownBlock ∧ some k_ ≠ (.slice (some ad514) t483.length co16 : Value).ownBlock ∧ k_ ≠ gb479 ∧ k_ ≠ gb487 ∧ k_ ≠ g)) (okp := (fun k_ => (w.heap.size ≤ k_) ∧ some k_ ≠ (.slice Ao12 t480.length co12 : Value).ownBlock ∧ some k_ ≠ (.slice (some ad514) t483.length co16 : Value).ownBlock ∧ k_ ≠ gb479 ∧ k_ ≠ gb487 ∧ k_ ≠ g)) ?hr ?hp (fun _ hk => hk) ((show ∀ k_, w83.heap.size ≤ k_ → (fun k_ => (w.heap.size ≤ k_) ∧ some k_ ≠ (.slice Ao12 t480.length co12 : Value).ownBlock ∧ some k_ ≠ (.slice (some ad514) t483.length co16 : Value).ownBlock ∧ k_ ≠ gb479 ∧ k_ ≠ gb487 ∧ k_ ≠ g) k_ from fun k_ hk => ⟨(Nat.le_trans (keep_size (w := w) (g := g) (row := none) ab7_) hk), Kd.fresh' (Kd.R_lt (aR_ HO482.out)) k_ hk, Kd.fresh' (Kd.N_lt (aN_ HO485.out)) k_ hk, Kd.freshB (g := gb479) (o := .cells #[.slice none 0 0, .slice none 0 0] 26 (0, 0)) (aG_ BK479.out) k_ hk, Kd.freshB (g := gb487) (o := .cells #[.slice Ao12 t480.length co12, .slice (some ad514) t483.length co16] 26 (0, 0)) (aG_ BK487.out) k_ hk, IsS66.fresh ab12_ k_ hk⟩) _ (Nat.le_refl _)) (Below.refl _ _) (Nat.le_refl _) (by simp) ?_; (case hd => rfl); (case hg => rfl); (case hr => first | (go_simp; done) | (go_simp; rfl)); (case hp => exact (Reps.one (show Kd.FK (Kd.slice 37 k37) _ _ (rd_L4 t483 0) [.slice A514_0 (rd_L4 t483 0).length c514_0] from (Kd.FK_slice_mk (Kd.V_reads' (Kd.V_mono (ok' := (fun k_ => (w.heap.size ≤ k_) ∧ some k_ ≠ (.slice Ao12 t480.length co12 : Value).ownBlock ∧ some k_ ≠ (.slice (some ad514) t483.length co16 : Value).ownBlock ∧ k_ ≠ gb479 ∧ k_ ≠ gb487 ∧ k_ ≠ g)) (HL514_0.out) (fun k_ hk => ⟨hk.1.1.1, ⟨hk.1.1.2.1, ⟨hk.2, ⟨hk.1.1.2.2.1, ⟨hk.1.2, hk.1.1.2.2.2⟩⟩⟩⟩⟩))).2.1 (Kd.V_F (Kd.V_mono (ok' := (fun k_ => (w.heap.size ≤ k_) ∧ some k_ ≠ (.slice Ao12 t480.length co12 : Value).ownBlock ∧ some k_ ≠ (.slice (some ad514) t483.length co16 : Value).ownBlock ∧ k_ ≠ gb479 ∧ k_ ≠ gb487 ∧ k_ ≠ g)) (HL514_0.out) (fun k_ hk => ⟨hk.1.1.1, ⟨hk.1.1.2.1, ⟨hk.2, ⟨hk.1.1.2.2.1, ⟨hk.1.2, hk.1.1.2.2.2⟩⟩⟩⟩⟩))))) (Reps.one (show Kd.FK (Kd.slice 37 k37) _ _ (rd_L4 t483 0) [.slice A514_0 (rd_L4 t483 0).length c514_0] from (Kd.FK_slice_mk (Kd.V_reads' (Kd.V_mono (ok' := (fun k_ => (w.heap.size ≤ k_) ∧ some k_ ≠ (.slice Ao12 t480.length co12 : Value).ownBlock ∧ some k_ ≠ (.slice (some ad514) t483.length co16 : Value).ownBlock ∧ k_ ≠ gb479 ∧ k_ ≠ gb487 ∧ k_ ≠ g)) (HL515_0.out) (fun k_ hk => ⟨hk.1.1.1, ⟨hk.1.1.2.1, ⟨hk.2, ⟨hk.1.1.2.2.1, ⟨hk.1.2, hk.1.1.2.2.2⟩⟩⟩⟩⟩))).2.1 (Kd.V_F (Kd.V_mono (ok' := (fun k_ => (w.heap.size ≤ k_) ∧ some k_ ≠ (.slice Ao12 t480.length co12 : Value).ownBlock ∧ some k_ ≠ (.slice (some ad514) t483.length co16 : Value).ownBlock ∧ k_ ≠ gb479 ∧ k_ ≠ gb487 ∧ k_ ≠ g)) (HL515_0.out) (fun k_ hk => ⟨hk.1.1.1, ⟨hk.1.1.2.1, ⟨hk.2, ⟨hk.1.1.2.2.1, ⟨hk.1.2, hk.1.1.2.2.2⟩⟩⟩⟩⟩))))) (Reps.one (show Kd.FK (Kd.slice 37 k37) _ _ (rd_L4 t483 0) [.slice A514_0 (rd_L4 t483 0).length c514_0] from (Kd.FK_slice_mk (Kd.V_reads' (Kd.V_mono (ok' := (fun k_ => (w.heap.size ≤ k_) ∧ some k_ ≠ (.slice Ao12 t480.length co12 : Value).ownBlock ∧ some k_ ≠ (.slice (some ad514) t483.length co16 : Value).ownBlock ∧ k_ ≠ gb479 ∧ k_ ≠ gb487 ∧ k_ ≠ g)) (HL516_0.out) (fun k_ hk => ⟨hk.1.1.1, ⟨hk.1.1.2.1, ⟨hk.2, ⟨hk.1.1.2.2.1, ⟨hk.1.2, hk.1.1.2.2.2⟩⟩⟩⟩⟩))).2.1 (Kd.V_F (Kd.V_mono (ok' := (fun k_ => (w.heap.size ≤ k_) ∧ some k_ ≠ (.slice Ao12 t480.length co12 : Value).ownBlock ∧ some k_ ≠ (.slice (some ad514) t483.length co16 : Value).ownBlock ∧ k_ ≠ gb479 ∧ k_ ≠ gb487 ∧ k_ ≠ g)) (HL516_0.out) (fun k_ hk => ⟨hk.1.1.1, ⟨hk.1.1.2.1, ⟨hk.2, ⟨hk.1.1.2.2.1, ⟨hk.1.2, hk.1.1.2.2.2⟩⟩⟩⟩⟩))))) (Reps.none _ _)))))
    intro v518 w84 ho85 hb hg_ hnew_
    have HS2_ := (hb.cell (World.block_lt_of_cell? _ _ (hHeld.2.2.1))).trans (hHeld.2.2.1)
    have HS3_ := (hb.cell (World.block_lt_of_cell? _ _ (hHeld.2.2.2.1))).trans (hHeld.2.2.2.1)
    have HS4_ := (hb.cell (World.block_lt_of_cell? _ _ (hHeld.2.2.2.2))).trans (hHeld.2.2.2.2)
    clear hg_ hnew_
    (first | rw [← Ny517.out] at ho85 | (simp only [Int.reduceToNat] at ho85; rw [← Ny517.out] at ho85))
    have n0_ := am (Kd.R_below (aR_ HO482.out) hb)
    have n1_ := am (Kd.N_elder' (aN_ HO485.out) (Kd.N_base ho85) hb)
    have n2_ := am (Kd.V_elder' (by (with_reducible repeat (first | apply Kd.V_alloc | apply Kd.V_drewN | apply Kd.V_drew)); exact HL514_0.out) (Kd.N_base ho85) hb)
    have n3_ := am (Kd.V_elder' (by (with_reducible repeat (first | apply Kd.V_alloc | apply Kd.V_drewN | apply Kd.V_drew)); exact HL515_0.out) (Kd.N_base ho85) hb)
    have n4_ := am (Kd.V_elder' (by (with_reducible repeat (first | apply Kd.V_alloc | apply Kd.V_drewN | apply Kd.V_drew)); exact HL516_0.out) (Kd.N_base ho85) hb)
    have n5_ := am (Kd.N_lower ho85 (keep_size (w := w) (g := g) (row := none) ab7_))
    have n6_ := am (IsS66.below ab12_ hb)
    have n7_ := am (blk_below (g := gb479) (o := .cells #[.slice none 0 0, .slice none 0 0] 26 (0, 0)) (aG_ BK479.out) hb)
    have n8_ := am (blk_below (g := gb487) (o := .cells #[.slice Ao12 t480.length co12, .slice (some ad514) t483.length co16] 26 (0, 0)) (aG_ BK487.out) hb)
    have n9_ := am (Kd.C_below (by repeat (first | (with_reducible exact HR514_0.out) | (with_reducible refine Kd.C_alloc ?_ _) | (with_reducible refine Kd.C_drewN ?_ _) | (with_reducible refine Kd.C_drew ?_) | exact HR514_0.out)) hb)
    have n10_ := am (Kd.C_below (by repeat (first | (with_reducible exact HR515_0.out) | (with_reducible refine Kd.C_alloc ?_ _) | (with_reducible refine Kd.C_drewN ?_ _) | (with_reducible refine Kd.C_drew ?_) | exact HR515_0.out)) hb)
    have n11_ := am (Kd.C_below (by repeat (first | (with_reducible exact HR516_0.out) | (with_reducible refine Kd.C_alloc ?_ _) | (with_reducible refine Kd.C_drewN ?_ _) | (with_reducible refine Kd.C_drew ?_) | exact HR516_0.out)) hb)
    have n12_ := am (KeepBut.trans ab7_ (KeepBut.of_below hb g none) (.inl rfl))
    have n13_ := am (below_step ab16_ hb)
    clear HO482
    clear HO485
    clear HL514_0
    clear HL515_0
    clear HL516_0
    clear HI0
    clear BK479
    clear BK487
    clear HR514_0
    clear HR515_0
    clear HR516_0
    clear HK
    clear HB
    have HO482 := n0_
    have HO485 := n1_
    have HL514_0 := n2_
    have HL515_0 := n3_
    have HL516_0 := n4_
    have HO519 := n5_
    have HI0 := n6_
    have BK479 := n7_
    have BK487 := n8_
    have HR514_0 := n9_
    have HR515_0 := n10_
    have HR516_0 := n11_
    have HK := n12_
    have HB := n13_
    clear n0_ n1_ n2_ n3_ n4_ n5_ n6_ n7_ n8_ n9_ n10_ n11_ n12_ n13_
    clear hb ho85
    obtain ⟨Ao87, co87, eo87⟩ := Kd.N_slice HO519.out
    (first | subst eo87 | (injection eo87 with f1_ f2_ f3_; have f4_ := f1_.symm; have f5_ := f3_.symm; clear f1_ f2_ f3_; subst f4_; subst f5_))
    refine hK.out _ _ ⟨(blk_cell BK487.out 0).trans rfl, (blk_cell BK487.out 1).trans rfl, HS2_, HS3_, HS4_⟩ (fun hHeld => ?_)
    clear hK K
    refine norm_ (a' := ?_) ?_ ?_
    rotate_left
    ·show Act.put _ (some 54) _ = _
     simp only [Act.put, List.setIfInBounds_toArray, List.set_cons_zero, List.set_cons_succ, i64_w, i32_w]
     rfl
    refine last_ (i := 15) (N := some 55) #[true, true, true, true, true, true, true, true, true, true, true, true, true, true, true, true, false, false] rfl rfl (one_of HT_.out (by kernel_rfl)) (by decide) (fun K hK => ?_)
    refine Kd.N_append_rows_step (Kd.slice 37 k37) w.heap.size (by rfl) (.tmp 41) (.tmp 54) 24 31 (.slice none 0 0) 24 rfl Try.underlying24 info31 rfl (by decide) (by omega) (.slice (some ad514) t483.length co16) t483 y517 _ _ _ (fun k_ => (w.heap.size ≤ k_) ∧ some k_ ≠ (.slice Ao12 t480.length co12 : Value).ownBlock ∧ k_ ≠ gb479 ∧ k_ ≠ gb487 ∧ k_ ≠ g) (fun k_ => ((fun k_ => (w.heap.size ≤ k_) ∧ some k_ ≠ (.slice Ao12 t480.length co12 : Value).ownBlock ∧ k_ ≠ gb479 ∧ k_ ≠ gb487 ∧ k_ ≠ g)) k_ ∧ some k_ ≠ (.slice (some ad514) t483.length co16 : Value).ownBlock) rfl rfl ?aO ?aR (fun _ hk => hk) ?aF (Below.refl _ _) ?aS ?aL ?_
    (case aR => exact (by skip; exact Kd.N_F (Kd.N_mono (ok' := (fun k_ => ((fun k_ => (w.heap.size ≤ k_) ∧ some k_ ≠ (.slice Ao12 t480.length co12 : Value).ownBlock ∧ k_ ≠ gb479 ∧ k_ ≠ gb487 ∧ k_ ≠ g)) k_ ∧ some k_ ≠ (.slice (some ad514) t483.length co16 : Value).ownBlock)) (HO519.out) (fun k_ hk => ⟨⟨hk.1, ⟨hk.2.1, ⟨hk.2.2.2.1, ⟨hk.2.2.2.2.1, hk.2.2.2.2.2⟩⟩⟩⟩, hk.2.2.1⟩))))
    (case aF => exact (fun k_ hk => ⟨(Nat.le_trans (keep_size (w := w) (g := g) (row := none) ab7_) hk), Kd.fresh' (Kd.R_lt (aR_ HO482.out)) k_ hk, Kd.freshB (g := gb479) (o := .cells #[.slice none 0 0, .slice none 0 0] 26 (0, 0)) (aG_ BK479.out) k_ hk, Kd.freshB (g := gb487) (o := .cells #[.slice Ao12 t480.length co12, .slice (some ad514) t483.length co16] 26 (0, 0)) (aG_ BK487.out) k_ hk, IsS66.fresh ab12_ k_ hk⟩))
    (case aO => exact (by (with_reducible repeat (first | apply Kd.N_alloc | apply Kd.N_drewN | apply Kd.N_drew)); exact Kd.N_mono HO485.out (fun _ hk => ⟨hk.1.1.1, ⟨hk.1.1.2.1, ⟨hk.1.1.2.2.1, ⟨hk.1.2, hk.1.1.2.2.2⟩⟩⟩⟩)))
    (case aS => exact (keep_size (w := w) (g := g) (row := none) ab7_))
    (case aL => have := LMc73.out; omega)
    intro v521 w86 ho hb hg hat
    rw [← Ny520.out] at ho
    have n0_ := am (IsS66.grown ab12_ hg (IsS66.own_neN HI0.out HO485.out (by decide)))
    have n1_ := am (blk_grown (g := gb479) (o := .cells #[.slice none 0 0, .slice none 0 0] 26 (0, 0)) (aG_ BK479.out) hg (Kd.N_ne HO485.out BK479.out (by decide)))
    have n2_ := am (Kd.R_over' (aR_ HO482.out) (Kd.N_typed (aN_ HO485.out)) (by decide) hg)
    have n3_ := am (blk_grown (g := gb487) (o := .cells #[.slice Ao12 t480.length co12, .slice (some ad514) t483.length co16] 26 (0, 0)) (aG_ BK487.out) hg (Kd.N_ne HO485.out BK487.out (by decide)))
    have n4_ := am (Kd.V_afterv (ok := (fun k_ => (w.heap.size ≤ k_) ∧ some k_ ≠ (.slice Ao12 t480.length co12 : Value).ownBlock ∧ some k_ ≠ (.slice Ao87 y517.length co87 : Value).ownBlock ∧ k_ ≠ gb479 ∧ k_ ≠ g ∧ k_ ≠ gb487)) (by (with_reducible repeat (first | apply Kd.V_alloc | apply Kd.V_drewN | apply Kd.V_drew)); exact Kd.V_mono HL514_0.out (fun _ hk => ⟨⟨hk.1.1.1.1, ⟨hk.1.1.1.2.1, ⟨hk.2, ⟨hk.1.1.1.2.2.1, ⟨hk.1.1.1.2.2.2, hk.1.1.2⟩⟩⟩⟩⟩, hk.1.2⟩)) hg hat)
    have n5_ := am (Kd.V_afterv (ok := (fun k_ => (w.heap.size ≤ k_) ∧ some k_ ≠ (.slice Ao12 t480.length co12 : Value).ownBlock ∧ some k_ ≠ (.slice Ao87 y517.length co87 : Value).ownBlock ∧ k_ ≠ gb479 ∧ k_ ≠ g ∧ k_ ≠ gb487)) (by (with_reducible repeat (first | apply Kd.V_alloc | apply Kd.V_drewN | apply Kd.V_drew)); exact Kd.V_mono HL515_0.out (fun _ hk => ⟨⟨hk.1.1.1.1, ⟨hk.1.1.1.2.1, ⟨hk.2, ⟨hk.1.1.1.2.2.1, ⟨hk.1.1.1.2.2.2, hk.1.1.2⟩⟩⟩⟩⟩, hk.1.2⟩)) hg hat)
    have n6_ := am (Kd.V_afterv (ok := (fun k_ => (w.heap.size ≤ k_) ∧ some k_ ≠ (.slice Ao12 t480.length co12 : Value).ownBlock ∧ some k_ ≠ (.slice Ao87 y517.length co87 : Value).ownBlock ∧ k_ ≠ gb479 ∧ k_ ≠ g ∧ k_ ≠ gb487)) (by (with_reducible repeat (first | apply Kd.V_alloc | apply Kd.V_drewN | apply Kd.V_drew)); exact Kd.V_mono HL516_0.out (fun _ hk => ⟨⟨hk.1.1.1.1, ⟨hk.1.1.1.2.1, ⟨hk.2, ⟨hk.1.1.1.2.2.1, ⟨hk.1.1.1.2.2.2, hk.1.1.2⟩⟩⟩⟩⟩, hk.1.2⟩)) hg hat)
    have n7_ := am (Kd.N_afterv (ok := (fun k_ => (w.heap.size ≤ k_) ∧ some k_ ≠ (.slice Ao12 t480.length co12 : Value).ownBlock ∧ k_ ≠ gb479 ∧ k_ ≠ gb487 ∧ k_ ≠ g)) (by (with_reducible repeat (first | apply Kd.N_alloc | apply Kd.N_drewN | apply Kd.N_drew)); exact Kd.N_mono HO519.out (fun _ hk => ⟨⟨hk.1, ⟨hk.2.1, ⟨hk.2.2.2.1, ⟨hk.2.2.2.2.1, hk.2.2.2.2.2⟩⟩⟩⟩, hk.2.2.1⟩)) hg hat)
    have n8_ := am (below_weaken ab16_ HL.out hb)
    have n9_ := am (KeepBut.trans ab7_ (KeepBut.of_grown hg g) (Kd.N_base2 HO485.out))
    have n10_ := am (ho)
    clear HI0
    clear BK479
    clear HO482
    clear BK487
    clear HL514_0
    clear HL515_0
    clear HL516_0
    clear HO519
    clear HB
    clear HK
    clear HO485
    have HI0 := n0_
    have BK479 := n1_
    have HO482 := n2_
    have BK487 := n3_
    have HL514_0 := n4_
    have HL515_0 := n5_
    have HL516_0 := n6_
    have HO519 := n7_
    have HB := n8_
    have HK := n9_
    have HO522 := n10_
    clear n0_ n1_ n2_ n3_ n4_ n5_ n6_ n7_ n8_ n9_ n10_
    clear ho hb hg hat
    obtain ⟨Ao88, co88, eo88⟩ := Kd.N_slice HO522.out
    (first | subst eo88 | (injection eo88 with f1_ f2_ f3_; have f4_ := f1_.symm; have f5_ := f3_.symm; clear f1_ f2_ f3_; subst f4_; subst f5_))
    refine hK.out _ _ ?_
    clear hK K
    refine norm_ (a' := ?_) ?_ ?_
    rotate_left
    ·show Act.put _ (some 55) _ = _
     simp only [Act.put, List.setIfInBounds_toArray, List.set_cons_zero, List.set_cons_succ, i64_w, i32_w]
     rfl
    refine pure_ (i := 16) (N := some 56) (v := ?_) (a' := ?_) #[true, true, true, true, true, true, true, true, true, true, true, true, true, true, true, true, true, false] rfl rfl (any_of HT_.out (by kernel_rfl)) (fun _ _ _ h => h) (Or.inl ⟨by rfl, ?_⟩) ?_ ?_
    rotate_left
    ·intro w'
     go_simp
     with_reducible rfl
    rotate_left
    ·simp only [Act.put, List.setIfInBounds_toArray, List.set_cons_zero, List.set_cons_succ, i64_w, i32_w]
     rfl
    refine last_ (i := 17) (N := none) #[true, true, true, true, true, true, true, true, true, true, true, true, true, true, true, true, true, true] rfl rfl (one_of HT_.out (by kernel_rfl)) (by decide) (fun K hK => ?_)
    have hs89 : w86.cell? ⟨gb487, 1, none⟩ = some (.slice (some ad514) t483.length co16) := (blk_cell BK487.out 1).trans rfl
    have hfs89 := blk_frozen BK487.out 1
    have hns89_0 := NB479_487.out
    have hms89_0 := NB487_479.out
    refine skip_ (w1 := ?_) (by rfl) rfl ?_ ?_
    rotate_left
    ·go_simp
     rfl
    refine hK.out _ _ ?_
    clear hK K
    refine done_ (done_of HT_.out (by kernel_rfl)) ?_
    obtain ⟨hcz90_0, hcz90_1, hfz90_0, hfz90_1⟩ := bcf2_ BK487.out
    have hnb91 := NB479_0.out
    have hnc91 := NB0_479.out
    obtain ⟨hcz92_0, hcz92_1, hfz92_0, hfz92_1⟩ := bcf2_ BK479.out
    try go_wp2
    refine bodyPost_ret (results_cell_row rfl _ _ gb479 26 #[.slice Ao12 t480.length co12, .slice Ao88 y520.length co88] (0, 0) _ rfl (by (with_reducible repeat (first | refine blk_drewN ?_ _ | refine blk_drew ?_ | refine blk_alloc ?_ _)); refine blk_put (cs := #[.slice Ao12 t480.length co12, .slice none 0 0]) ?_ 1 _ rfl; (with_reducible repeat (first | refine blk_drewN ?_ _ | refine blk_drew ?_ | refine blk_alloc ?_ _)); refine blk_put (cs := #[.slice none 0 0, .slice none 0 0]) ?_ 0 _ rfl; (with_reducible repeat (first | refine blk_drewN ?_ _ | refine blk_drew ?_ | refine blk_alloc ?_ _)); refine blk_far ?_ NB479_487.out _; (with_reducible repeat (first | refine blk_drewN ?_ _ | refine blk_drew ?_ | refine blk_alloc ?_ _)); exact BK479.out) Try.underlying26 rfl (by kernel_rfl)) rfl ?_
    exact ⟨_, _, ab14_, by (with_reducible repeat (first | apply Kd.R_alloc | apply Kd.R_drewN | apply Kd.R_drew)); exact Kd.R_mono (Kd.R_far (p := ⟨gb479, 1, none⟩) (Kd.R_far (p := ⟨gb479, 0, none⟩) (Kd.R_far (p := ⟨gb487, 1, none⟩) (Kd.R_types (Kd.R_types HO482.out BK487.out (by decide)) BK479.out (by decide)) (fun _ hk => hk.1.2) (.slice Ao88 y520.length co88)) (fun _ hk => hk.2) (.slice Ao12 t480.length co12)) (fun _ hk => hk.2) (.slice Ao88 y520.length co88)) (fun _ hk => hk.1.1.1), by (with_reducible repeat (first | apply Kd.N_alloc | apply Kd.N_drewN | apply Kd.N_drew)); exact Kd.N_mono (Kd.N_far (p := ⟨gb479, 1, none⟩) (Kd.N_far (p := ⟨gb479, 0, none⟩) (Kd.N_far (p := ⟨gb487, 1, none⟩) (Kd.N_mono (Kd.N_mono HO522.out (fun k_ hk => (⟨hk, hk.2.2.2.1⟩ : _ ∧ k_ ≠ gb487))) (fun k_ hk => (⟨hk, hk.1.2.2.1⟩ : _ ∧ k_ ≠ gb479))) (fun _ hk => hk.1.2) (.slice Ao88 y520.length co88)) (fun _ hk => hk.2) (.slice Ao12 t480.length co12)) (fun _ hk => hk.2) (.slice Ao88 y520.length co88)) (fun _ hk => ⟨hk.1.1.1, hk.1.1.2.1⟩), ab12_, ab16_, ab7_⟩
   rw [if_neg c73] at H
   exact absurd H (by simp)
  rw [if_neg c72] at H
  exact absurd H (by simp)
 rw [if_neg c71] at H
 have c71b0 : (t488 == 3) = false := beq_eq_false_iff_ne.mpr c71
 have c71b1 : (t488 != 3) = true := bne_iff_ne.mpr c71
 by_cases c93 : t488 = 4
 ·rw [if_pos c93] at H
  have c93b0 : (t488 == 4) = true := beq_iff_eq.mpr c93
  have c93b1 : (t488 != 4) = false := bne_eq_false_iff_eq.mpr c93
  clear c93
  by_cases cA : 0 < (t483.length : Int)
  case neg =>
   rw [if_neg cA] at H
   exact absurd H (by simp)
  rw [if_pos cA] at H
  by_cases cB : (rd_L4 t483 0).length + 1 < 1256584717458
  case neg =>
   rw [if_neg cB] at H
   exact absurd H (by simp)
  rw [if_pos cB] at H
  have LEN := am cA
  have LENN : Aside0 (0 < t483.length) := ⟨by omega⟩
  have CAP := am cB
  clear cA cB
  simp only [Option.some.injEq, Prod.mk.injEq] at H
  obtain ⟨rfl, rfl, rfl⟩ := H
  go_upto_region 12 with fail
  obtain ⟨go_, eA⟩ : ∃ go_, Ao16 = some ⟨go_, 0, none⟩ := by
   obtain ⟨g_, cap_, e_, _⟩ := Kd.N_form (TF_N HO485.out) LENN.out
   injection e_ with e_
   exact ⟨g_, e_⟩
  subst eA
  have HTF : Aside0 (TF w17 w.heap.size (fun x => (w.heap.size ≤ x ∧ some x ≠ (Value.slice Ao12 t480.length co12).ownBlock ∧ x ≠ gb479 ∧ x ≠ g) ∧ x ≠ gb487) (.slice (some ⟨go_, 0, none⟩) t483.length co16) t483) := HO485
  obtain ⟨ok_, hok_⟩ : ∃ ok_ : Nat → Prop, ok_ = (fun x => (w.heap.size ≤ x ∧ some x ≠ (Value.slice Ao12 t480.length co12).ownBlock ∧ x ≠ gb479 ∧ x ≠ g) ∧ x ≠ gb487) := ⟨_, rfl⟩
  rw [← hok_] at HTF
  have hfr_ : ∀ k, w17.heap.size ≤ k → ok_ k ∧ k ≠ go_ := by
   intro k hk
   have h1 := Kd.R_lt HO482.out
   have h2 := blk_lt BK479.out
   have h3 := blk_lt BK487.out
   have h4 := IsS66.lt HI0.out
   have h5 := Kd.N_lt (TF_N HTF.out) go_ (by simp [Value.ownBlock])
   have h6 := HK.out.1
   rw [hok_]
   exact ⟨⟨⟨by omega, fun e => by have := h1 k e.symm; omega, by omega, by omega⟩, by omega⟩, by omega⟩
  obtain ⟨A0, c0, hx_, hf_, htg_⟩ := TF_TG HTF.out LENN.out hfr_
  have HS0 := am (Nat.le_refl w17.heap.size)
  have CAP2 : Aside0 ((t483.getD 0 []).length + 1 < 1256584717458) := CAP
  have RT : Aside0 (rd_L4 t483 0 = t483.getD 0 []) := ⟨rfl⟩
  clear CAP
  generalize t483.getD 0 [] = tl at hx_ hf_ htg_ CAP2 RT
  have CAP := CAP2
  clear CAP2
  have HP : Aside0 (PS w0 w g s0_0 t489 gb479 gb487 Ao12 co12 t480 ok_ w17.heap.size go_ t483.length co16 t483 (.slice A0 tl.length c0) (.slice A0 tl.length c0) tl w17) := ⟨⟨⟨HL.out, HI0.out, HB.out, HK.out, BK479.out, BK487.out, Kd.R_mono HO482.out (fun _ h_ => h_.1)⟩, htg_, hx_, hf_, Nat.le_refl _⟩⟩
  have HOK : Aside0 (∀ k, ok_ k → (w.heap.size ≤ k ∧ some k ≠ (.slice Ao12 t480.length co12 : Value).ownBlock) ∧ k ≠ gb479) := ⟨by rw [hok_]; exact fun k hk => ⟨⟨hk.1.1, hk.1.2.1⟩, hk.1.2.2.1⟩⟩
  have HUL : Aside0 (∀ q, ((.slice A0 tl.length c0) : Value).ownBlock = some q → q < w17.heap.size) := ⟨by obtain ⟨_, _, _, hN_, _⟩ := TG_with htg_; exact Kd.N_lt hN_⟩
  clear hfr_ hx_ hf_ htg_ HTF hok_ HO485 HO482 HK HB HI0 BK479 BK487
  try clear hcz15_0
  try clear hcz15_1
  try clear hfz15_0
  try clear hfz15_1
  refine wp_region_any (by kernel_rfl) ?_
  have HPd := am (HP.out.below (below_drew (Below.refl _ _)))
  show wpAny _ _ _ _ _ _ _ w17.drew
  have HS1 : Aside0 (w17.heap.size ≤ w17.drew.heap.size) := ⟨Nat.le_refl _⟩
  generalize w17.heap.size = s_ at *
  clear HP
  generalize w17.drew = W0 at HPd HS1 ⊢
  refine any_inv (n := 4) (T := (true, [([], []), ([0], [0]), ([0], [0]), ([0, 0, 1, 2], [0])])) rfl (by kernel_rfl) (by decide) (fun b a W => LC4 W0 g gb479 gb487 Ao12 co12 t480 go_ t483 co16 t488 (b 0) (b 1) (b 2) (b 3) a W) ?hstep ?hdone _ _ ?hstart
  case hstart => exact ⟨0, false, rfl, ⟨Below.refl _ _, fun e => Bool.noConfusion e⟩⟩
  case hstep =>
   intro i b a W hi hbi hneed hcl hI
   have hcase : i = 0 ∨ i = 1 ∨ i = 2 ∨ i = 3 := by omega
   rcases hcase with rfl | rfl | rfl | rfl
   ·
    have z1 := zz_ (fun h => hcl 1 _ h rfl 0 (by decide)) hbi
    have z2 := zz_ (fun h => hcl 2 _ h rfl 0 (by decide)) hbi
    have z3 := zz_ (fun h => hcl 3 _ h rfl 0 (by decide)) hbi
    simp only [hbi, z1, z2, z3] at hI
    obtain ⟨gb, v, rfl, h⟩ := hI
    refine wpOp_step rfl (fun K' hK' => ?_)
    simp (decide := true) only [if_true, if_false, reduceIte, z1, z2, z3] at hK'
    refine box_step ?hg (N := 59) ?hd (cs := #[.bool false]) (t := 4) ?hr ?_
    case hd => rfl
    case hg => rfl
    case hr => first | (go_simp; done) | (go_simp; rfl)
    intro gb' hgb W' hbox hb
    have hlt := h.hB.size
    refine hK' _ _ (⟨gb', false, ?_, ⟨below_step h.hB hb, fun _ => ⟨by omega, hbox⟩⟩⟩)
    show Act.put _ (some 59) _ = _
    simp only [aC4, Act.put, List.setIfInBounds_toArray, List.set_cons_zero, List.set_cons_succ]
    rfl
   ·
    have hn_ := hneed _ rfl
    have n0 := hn_ 0 (by decide)
    have z3 := zz_ (fun h => hcl 3 _ h rfl 1 (by decide)) hbi
    simp only [hbi, n0, z3] at hI
    obtain ⟨gb, v, rfl, h⟩ := hI
    refine wpOp_step rfl (fun K' hK' => ?_)
    simp (decide := true) only [if_true, if_false, reduceIte, n0, z3] at hK'
    obtain ⟨hgb, hbx⟩ := h.hx rfl
    have q0 : W.cell? ⟨gb, 0, none⟩ = some (.bool v) := blk_cell hbx 0
    have f0 := blk_frozen hbx 0
    refine skip_ (w1 := W.setCell ⟨gb, 0, none⟩ (.bool true)) (by rfl) rfl ?_ ?_
    ·(try simp only [aC4, cond_true, cond_false])
     go_simp
     (try rfl)
    refine hK' _ _ (⟨gb, true, rfl, ⟨below_set (j := 0) (v := .bool true) h.hB hgb, fun _ => ⟨hgb, blk_put (cs' := #[.bool true]) hbx 0 (.bool true) rfl⟩⟩⟩)
   ·
    have hn_ := hneed _ rfl
    have n0 := hn_ 0 (by decide)
    have z3 := zz_ (fun h => hcl 3 _ h rfl 2 (by decide)) hbi
    simp only [hbi, n0, z3] at hI
    obtain ⟨gb, v, rfl, h⟩ := hI
    refine wpOp_step rfl (fun K' hK' => ?_)
    simp (decide := true) only [if_true, if_false, reduceIte, n0, z3] at hK'
    obtain ⟨hgb, hbx⟩ := h.hx rfl
    have q0 : W.cell? ⟨gb, 0, none⟩ = some (.bool v) := blk_cell hbx 0
    have f0 := blk_frozen hbx 0
    refine skip_ (w1 := W.setCell ⟨gb, 0, none⟩ (.bool false)) (by rfl) rfl ?_ ?_
    ·(try simp only [aC4, cond_true, cond_false])
     go_simp
     (try rfl)
    refine hK' _ _ (⟨gb, false, rfl, ⟨below_set (j := 0) (v := .bool false) h.hB hgb, fun _ => ⟨hgb, blk_put (cs' := #[.bool false]) hbx 0 (.bool false) rfl⟩⟩⟩)
   ·
    have hn_ := hneed _ rfl
    have n0 := hn_ 0 (by decide)
    have n1 := hn_ 1 (by decide)
    have n2 := hn_ 2 (by decide)
    simp only [hbi, n0, n1, n2] at hI
    obtain ⟨gb, v, rfl, h⟩ := hI
    refine wpOp_step rfl (fun K' hK' => ?_)
    simp (decide := true) only [if_true, if_false, reduceIte, n0, n1, n2] at hK'
    obtain ⟨hgb, hbx⟩ := h.hx rfl
    have q0 : W.cell? ⟨gb, 0, none⟩ = some (.bool v) := blk_cell hbx 0
    have f0 := blk_frozen hbx 0
    refine event_step (W := W) (w1 := W) (v := ?_) (by rfl) ?_ ?_
    rotate_left
    ·(try simp only [aC4, cond_true, cond_false])
     go_simp
     first | with_reducible rfl | rfl
    refine hK' _ _ (⟨gb, v, ?_, h⟩)
    show Act.put _ (some 60) _ = _
    simp only [aC4, Act.put, List.setIfInBounds_toArray, List.set_cons_zero, List.set_cons_succ, i64_w, i32_w]
    rfl
  case hdone =>
   intro b a W1 hall hI
   replace hI : LC4 W0 g gb479 gb487 Ao12 co12 t480 go_ t483 co16 t488 (b 0) (b 1) (b 2) (b 3) a W1 := hI
   rw [hall 0 (by decide), hall 1 (by decide), hall 2 (by decide), hall 3 (by decide)] at hI
   obtain ⟨gb, v, rfl, h⟩ := hI
   simp only [aC4, cond_true]
   have HP := am (HPd.out.below h.hB)
   have HS2 : Aside0 (s_ ≤ W1.heap.size) := ⟨Nat.le_trans HS1.out h.hB.size⟩
   have HU2 : Aside0 (∀ q, ((.slice A0 tl.length c0) : Value).ownBlock = some q → q < W1.heap.size) := ⟨fun q hq => Nat.lt_of_lt_of_le (HUL.out q hq) HS2.out⟩
   clear h hall HPd HUL HS1
   cases v with
   | true =>
    have p3_1 : W1.cell? ⟨gb487, 1, none⟩ = some (.slice (some ⟨go_, 0, none⟩) t483.length co16) := blk_cell HP.out.wf.h3 1
    have po_0 : W1.cell? ⟨go_, 0, none⟩ = some (.slice A0 tl.length c0) := HP.out.hc
    have fo_0 := HP.out.hf
    have l0_ : decide (0 < (t483.length : Int)) = true := decide_eq_true LEN.out
    have l1_ : decide (0 < t483.length) = true := decide_eq_true LENN.out
    have l2_ : (0 < t483.length) = True := eq_true LENN.out
    go_upto_region 14 with (first | ((with_reducible refine gate_dst (N := 67) rfl ?_); refine Kd.N_lit k37 W1.heap.size 37 rfl (N' := 67) rfl (w0 := W1) (xs := [(⟨0, 0, 0, ⟨0, 0, []⟩, [], []⟩ : S37)]) (inner := [(.int .i64 0), (.int .i64 0), (.int .i64 0), (.int .i64 0), (.int .i64 0), (.slice none 0 0), (.slice none 0 0), (.slice none 0 0)]) (ok := fun q => W1.heap.size ≤ q) (okp := fun _ => False) ?hr ?hp (fun _ hq => hq.elim) (Nat.le_refl _) (Below.refl _ _) (Nat.le_refl _) (by simp) ?_; (case hr => first | (go_simp; done) | (go_simp; rfl)); (case hp => exact Reps.c8 (show Kd.FK k37 _ _ (⟨0, 0, 0, ⟨0, 0, []⟩, [], []⟩ : S37) [(.int .i64 0), (.int .i64 0), (.int .i64 0), (.int .i64 0), (.int .i64 0), (.slice none 0 0), (.slice none 0 0), (.slice none 0 0)] from k37_mkF _ _ (⟨0, 0, 0, ⟨0, 0, []⟩, [], []⟩ : S37) (Nat.le_refl _) (Kd.F_nil _ _ _) (Nat.le_refl _) (Kd.F_nil _ _ _) (Nat.le_refl _) (Kd.F_nil _ _ _)) (Reps.none _ _)); intro v67 W2 hn hb _ _; obtain ⟨A67, c67, rfl⟩ := Kd.N_slice hn; have HN67 := am hn; have HP2 := am (HP.out.below hb); have HS3 := am hb.size; clear hn hb p3_1 po_0 fo_0; have p3_1 : W2.cell? ⟨gb487, 1, none⟩ = some (.slice (some ⟨go_, 0, none⟩) t483.length co16) := blk_cell HP2.out.wf.h3 1; have po_0 : W2.cell? ⟨go_, 0, none⟩ = some (.slice A0 tl.length c0) := HP2.out.hc; have fo_0 := HP2.out.hf) | ((with_reducible refine gate_dst (N := 68) rfl ?_); obtain ⟨ok1, hfr1, hne1, hN1, up1⟩ := TG_with HP2.out.tg; refine Kd.N_append_rows k37 (w0 := W2) w.heap.size rfl (.tmp 64) (.tmp 67) 31 37 (.agg #[(.int .i64 0), (.int .i64 0), (.int .i64 0), (.int .i64 0), (.int .i64 0), (.slice none 0 0), (.slice none 0 0), (.slice none 0 0)]) 112 rfl Try.underlying31 info37 rfl (by decide) (by omega) (.slice A0 tl.length c0) tl [(⟨0, 0, 0, ⟨0, 0, []⟩, [], []⟩ : S37)] A67 1 c67 ok1 (fun q => W1.heap.size ≤ q) rfl rfl hN1 (Kd.N_F HN67.out) ?aK ?aF (Below.refl _ _) HP2.out.wf.hK.1 ?aL ?_; (case aK => exact fun q hq => ⟨hfr1 q (Nat.le_trans HS2.out hq), fun e => by have := HU2.out q e.symm; omega⟩); (case aF => exact fun q hq => hfr1 q (Nat.le_trans HS2.out (Nat.le_trans HS3.out hq))); (case aL => (have := CAP.out; omega)); intro v68 W3 hn hb hg hat; obtain ⟨A68, c68, e68⟩ := Kd.N_slice hn; rw [List.length_append, List.length_singleton] at e68; subst e68; have HP3 := am (HP2.out.grown hg (up1 _ _ _ hg hn)); clear hn hb hg hat up1 hN1 hne1 hfr1 HN67 HP p3_1 po_0 fo_0 ok1; have p3_1 : W3.cell? ⟨gb487, 1, none⟩ = some (.slice (some ⟨go_, 0, none⟩) t483.length co16) := blk_cell HP3.out.wf.h3 1; have po_0 : W3.cell? ⟨go_, 0, none⟩ = some (.slice A0 tl.length c0) := HP3.out.hc; have fo_0 := HP3.out.hf) | fail)
    clear p3_1 po_0 fo_0
    have HP4 := am (HP3.out.store LENN.out)
    generalize W3.setCell ⟨go_, 0, none⟩ (.slice A68 (tl.length + 1) c68) = W4 at HP4 ⊢
    obtain ⟨b_, eb⟩ : ∃ b_, A68 = some ⟨b_, 0, none⟩ := by
     obtain ⟨ok1, hfr1, hne1, hN1, up1⟩ := TG_with HP4.out.tg
     obtain ⟨g_, cap_, e_, _⟩ := Kd.N_form hN1 (by simp)
     injection e_ with e_
     exact ⟨g_, e_⟩
    subst eb
    have l3_ : decide ((tl.length : Int) < (tl.length : Int) + 1) = true := decide_eq_true (by omega)
    have l4_ : (tl.length < tl.length + 1) = True := eq_true (by omega)
    go_wp2_with (first | ((with_reducible refine gate_store (t := 37) (p := 70) (v := .tmp 65) rfl ?_); refine stopW_ ?_) | fail)
    refine ⟨?_⟩
    obtain ⟨ok1, hfr1, hne1, hN1, up1⟩ := TG_with HP4.out.tg
    obtain ⟨ce, hcl, hx1_, hcc, hx2_⟩ := Kd.N_elem hN1 z37 (tl.length : Int) (by omega) (by omega)
    have hcl8 : ce.length = 8 := hcl
    refine Kd.N_store k37 (w0 := W4) w.heap.size rfl rfl 37 (.tmp 70) (.tmp 65) rfl 37 (tl.length : Int) 0 _ (⟨9, 0, 0, ⟨0, 0, []⟩, [], []⟩ : S37) (.agg #[(.int .i64 9), (.int .i64 0), (.int .i64 0), (.int .i64 0), (.int .i64 0), (.slice none 0 0), (.slice none 0 0), (.slice none 0 0)]) [(.int .i64 9), (.int .i64 0), (.int .i64 0), (.int .i64 0), (.int .i64 0), (.slice none 0 0), (.slice none 0 0), (.slice none 0 0)] ce ok1 (fun _ => False) rfl ?hoff rfl rfl (by kernel_rfl) ?h1 hN1 (by omega) (by omega) hcl hcc (Nat.le_refl _) ?hM (fun _ hk => hk.elim) (Below.refl _ _) ?_
    (case hoff => simp [show k37.sz = 8 from rfl])
    (case h1 => simp [Value.oneCell'])
    (case hM => (have e_ : ce.take 0 ++ ([(.int .i64 9), (.int .i64 0), (.int .i64 0), (.int .i64 0), (.int .i64 0), (.slice none 0 0), (.slice none 0 0), (.slice none 0 0)] : List Value) ++ ce.drop (0 + ([(.int .i64 9), (.int .i64 0), (.int .i64 0), (.int .i64 0), (.int .i64 0), (.slice none 0 0), (.slice none 0 0), (.slice none 0 0)] : List Value).length) = [(.int .i64 9), (.int .i64 0), (.int .i64 0), (.int .i64 0), (.int .i64 0), (.slice none 0 0), (.slice none 0 0), (.slice none 0 0)] := (by simp [List.drop_eq_nil_of_le (show ce.length ≤ 8 by omega)]); rw [e_]; exact k37_mkF _ _ (⟨9, 0, 0, ⟨0, 0, []⟩, [], []⟩ : S37) (Nat.le_refl _) (Kd.F_nil _ _ _) (Nat.le_refl _) (Kd.F_nil _ _ _) (Nat.le_refl _) (Kd.F_nil _ _ _)))
    intro W5 hn hb hg
    have HP5 := am (HP4.out.grown hg (up1 _ _ _ hg hn))
    clear hn hb hg hcc hcl8 hcl hx1_ hx2_ up1 hN1 hne1 hfr1
    have eset : (tl ++ [(⟨0, 0, 0, ⟨0, 0, []⟩, [], []⟩ : S37)]).set (tl.length : Int).toNat (⟨9, 0, 0, ⟨0, 0, []⟩, [], []⟩ : S37) = tl ++ [(⟨9, 0, 0, ⟨0, 0, []⟩, [], []⟩ : S37)] := by simp
    rw [eset] at HP5
    clear l0_ l1_ l2_ l3_ l4_ eset
    have p3_0 : W5.cell? ⟨gb487, 0, none⟩ = some (.slice Ao12 t480.length co12) := blk_cell HP5.out.wf.h3 0
    have p3_1 : W5.cell? ⟨gb487, 1, none⟩ = some (.slice (some ⟨go_, 0, none⟩) t483.length co16) := blk_cell HP5.out.wf.h3 1
    have p2_0 : W5.cell? ⟨gb479, 0, none⟩ = some (.slice none 0 0) := blk_cell HP5.out.wf.h2 0
    have p2_1 : W5.cell? ⟨gb479, 1, none⟩ = some (.slice none 0 0) := blk_cell HP5.out.wf.h2 1
    have f2_0 := blk_frozen HP5.out.wf.h2 0
    have f2_1 := blk_frozen HP5.out.wf.h2 1
    go_wp2
    have hE := HP5.out.done LENN.out GW479.out HOK.out
    rw [RT.out]
    refine bodyPost_ret (results_cell_row rfl _ _ gb479 26 #[.slice Ao12 t480.length co12, .slice (some ⟨go_, 0, none⟩) t483.length co16] (0, 0) _ rfl hE.1 Try.underlying26 rfl (by kernel_rfl)) rfl ?_
    exact ⟨_, _, rfl, hE.2.1, hE.2.2.1, hE.2.2.2.1, hE.2.2.2.2.1, hE.2.2.2.2.2⟩
   | false =>
    go_upto_region 15 with fail
    refine wp_region_any (by kernel_rfl) ?_
    have HPd := am (HP.out.below (below_drew (Below.refl _ _)))
    have HSd : Aside0 (s_ ≤ W1.drew.heap.size) := HS2
    have HUd : Aside0 (∀ q, ((.slice A0 tl.length c0) : Value).ownBlock = some q → q < W1.drew.heap.size) := HU2
    show wpAny _ _ _ _ _ _ _ W1.drew
    generalize W1.drew = W0 at HPd HSd HUd ⊢
    clear HP HS2 HU2
    refine any_inv (n := 11) (T := (true, [([], []), ([0], [0]), ([], []), ([2], [2]), ([3], [3]), ([4], [4]), ([], []), ([6], [6]), ([5, 7], [5, 7]), ([1, 0, 1, 2, 3, 4, 5, 6, 7, 8], [1]), ([9, 8, 8, 0, 1, 2, 3, 4, 5, 6, 7, 8], [8, 9])])) rfl (by kernel_rfl) (by decide) (fun b a W => LD4 w0 w W0 g s0_0 t489 gb479 gb487 Ao12 co12 t480 ok_ s_ go_ t483 co16 t488 gb A0 c0 tl (b 0) (b 1) (b 2) (b 3) (b 4) (b 5) (b 6) (b 7) (b 8) (b 9) (b 10) a W) ?hstep ?hdone _ _ ?hstart
    case hstart => exact ⟨none, 0, none, 0, rfl, ⟨HPd.out, (fun e => Bool.noConfusion e), HUd.out, Nat.le_refl _⟩⟩
    case hstep =>
     intro i b a W hi hbi hneed hcl hI
     have hcase : i = 0 ∨ i = 1 ∨ i = 2 ∨ i = 3 ∨ i = 4 ∨ i = 5 ∨ i = 6 ∨ i = 7 ∨ i = 8 ∨ i = 9 ∨ i = 10 := by omega
     rcases hcase with rfl | rfl | rfl | rfl | rfl | rfl | rfl | rfl | rfl | rfl | rfl
     ·
      have z1 := zz_ (fun h => hcl 1 _ h rfl 0 (by decide)) hbi
      have z9 := zz_ (fun h => hcl 9 _ h rfl 0 (by decide)) hbi
      have z10 := zz_ (fun h => hcl 10 _ h rfl 0 (by decide)) hbi
      simp only [hbi, z1, z9, z10] at hI
      obtain ⟨A78, c78, A79, c79, rfl, h⟩ := hI
      refine wpOp_step rfl (fun K' hK' => ?_)
      simp (decide := true) only [if_true, if_false, reduceIte, z1, z9, z10] at hK'
      refine event_step (W := W) (w1 := W) (v := ?_) (by rfl) ?_ ?_
      rotate_left
      ·(try simp only [aD4, cond_true, cond_false])
       go_simp
       first | with_reducible rfl | rfl
      refine hK' _ _ (⟨A78, c78, A79, c79, ?_, h⟩)
      show Act.put _ (some 71) _ = _
      simp only [aD4, Act.put, List.setIfInBounds_toArray, List.set_cons_zero, List.set_cons_succ, i64_w, i32_w]
      rfl
     ·
      have hn_ := hneed _ rfl
      have n0 := hn_ 0 (by decide)
      have z9 := zz_ (fun h => hcl 9 _ h rfl 1 (by decide)) hbi
      have z10 := zz_ (fun h => hcl 10 _ h rfl 1 (by decide)) hbi
      simp only [hbi, n0, z9, z10] at hI
      obtain ⟨A78, c78, A79, c79, rfl, h⟩ := hI
      refine wpOp_step rfl (fun K' hK' => ?_)
      simp (decide := true) only [if_true, if_false, reduceIte, n0, z9, z10] at hK'
      have hx3 := h.ps.wf.h3
      have q1 : W.cell? ⟨gb487, 1, none⟩ = some (.slice (some ⟨go_, 0, none⟩) t483.length co16) := blk_cell hx3 1
      refine event_step (W := W) (w1 := W) (v := ?_) (by rfl) ?_ ?_
      rotate_left
      ·(try simp only [aD4, cond_true, cond_false])
       go_simp
       first | with_reducible rfl | rfl
      refine hK' _ _ (⟨A78, c78, A79, c79, ?_, h⟩)
      show Act.put _ (some 72) _ = _
      simp only [aD4, Act.put, List.setIfInBounds_toArray, List.set_cons_zero, List.set_cons_succ, i64_w, i32_w]
      rfl
     ·
      have z3 := zz_ (fun h => hcl 3 _ h rfl 2 (by decide)) hbi
      have z4 := zz_ (fun h => hcl 4 _ h rfl 3 (by decide)) z3
      have z5 := zz_ (fun h => hcl 5 _ h rfl 4 (by decide)) z4
      have z8 := zz_ (fun h => hcl 8 _ h rfl 5 (by decide)) z5
      have z9 := zz_ (fun h => hcl 9 _ h rfl 2 (by decide)) hbi
      have z10 := zz_ (fun h => hcl 10 _ h rfl 2 (by decide)) hbi
      simp only [hbi, z3, z4, z5, z8, z9, z10] at hI
      obtain ⟨A78, c78, A79, c79, rfl, h⟩ := hI
      refine wpOp_step rfl (fun K' hK' => ?_)
      simp (decide := true) only [if_true, if_false, reduceIte, z3, z4, z5, z8, z9, z10] at hK'
      refine event_step (W := W) (w1 := W) (v := ?_) (by rfl) ?_ ?_
      rotate_left
      ·(try simp only [aD4, cond_true, cond_false])
       go_simp
       first | with_reducible rfl | rfl
      refine hK' _ _ (⟨A78, c78, A79, c79, ?_, h⟩)
      show Act.put _ (some 73) _ = _
      simp only [aD4, Act.put, List.setIfInBounds_toArray, List.set_cons_zero, List.set_cons_succ, i64_w, i32_w]
      rfl
     ·
      have hn_ := hneed _ rfl
      have n2 := hn_ 2 (by decide)
      have z4 := zz_ (fun h => hcl 4 _ h rfl 3 (by decide)) hbi
      have z5 := zz_ (fun h => hcl 5 _ h rfl 4 (by decide)) z4
      have z8 := zz_ (fun h => hcl 8 _ h rfl 5 (by decide)) z5
      have z9 := zz_ (fun h => hcl 9 _ h rfl 3 (by decide)) hbi
      have z10 := zz_ (fun h => hcl 10 _ h rfl 3 (by decide)) hbi
      simp only [hbi, n2, z4, z5, z8, z9, z10] at hI
      obtain ⟨A78, c78, A79, c79, rfl, h⟩ := hI
      refine wpOp_step rfl (fun K' hK' => ?_)
      simp (decide := true) only [if_true, if_false, reduceIte, n2, z4, z5, z8, z9, z10] at hK'
      have hx3 := h.ps.wf.h3
      have q1 : W.cell? ⟨gb487, 1, none⟩ = some (.slice (some ⟨go_, 0, none⟩) t483.length co16) := blk_cell hx3 1
      refine event_step (W := W) (w1 := W) (v := ?_) (by rfl) ?_ ?_
      rotate_left
      ·(try simp only [aD4, cond_true, cond_false])
       go_simp
       first | with_reducible rfl | rfl
      refine hK' _ _ (⟨A78, c78, A79, c79, ?_, h⟩)
      show Act.put _ (some 74) _ = _
      simp only [aD4, Act.put, List.setIfInBounds_toArray, List.set_cons_zero, List.set_cons_succ, i64_w, i32_w]
      rfl
     ·
      have hn_ := hneed _ rfl
      have n3 := hn_ 3 (by decide)
      have n2 := hcl 3 _ n3 rfl 2 (by decide)
      have z5 := zz_ (fun h => hcl 5 _ h rfl 4 (by decide)) hbi
      have z8 := zz_ (fun h => hcl 8 _ h rfl 5 (by decide)) z5
      have z9 := zz_ (fun h => hcl 9 _ h rfl 4 (by decide)) hbi
      have z10 := zz_ (fun h => hcl 10 _ h rfl 4 (by decide)) hbi
      simp only [hbi, n2, n3, z5, z8, z9, z10] at hI
      obtain ⟨A78, c78, A79, c79, rfl, h⟩ := hI
      refine wpOp_step rfl (fun K' hK' => ?_)
      simp (decide := true) only [if_true, if_false, reduceIte, n2, n3, z5, z8, z9, z10] at hK'
      have l2_ : (0 < t483.length) = True := eq_true LENN.out
      refine event_step (W := W) (w1 := W) (v := ?_) (by rfl) ?_ ?_
      rotate_left
      ·(try simp only [aD4, cond_true, cond_false])
       go_simp
       first | with_reducible rfl | rfl
      refine hK' _ _ (⟨A78, c78, A79, c79, ?_, h⟩)
      show Act.put _ (some 75) _ = _
      simp only [aD4, Act.put, List.setIfInBounds_toArray, List.set_cons_zero, List.set_cons_succ, i64_w, i32_w]
      rfl
     ·
      have hn_ := hneed _ rfl
      have n4 := hn_ 4 (by decide)
      have n3 := hcl 4 _ n4 rfl 3 (by decide)
      have n2 := hcl 3 _ n3 rfl 2 (by decide)
      have z8 := zz_ (fun h => hcl 8 _ h rfl 5 (by decide)) hbi
      have z9 := zz_ (fun h => hcl 9 _ h rfl 5 (by decide)) hbi
      have z10 := zz_ (fun h => hcl 10 _ h rfl 5 (by decide)) hbi
      simp only [hbi, n2, n3, n4, z8, z9, z10] at hI
      obtain ⟨A78, c78, A79, c79, rfl, h⟩ := hI
      refine wpOp_step rfl (fun K' hK' => ?_)
      simp (decide := true) only [if_true, if_false, reduceIte, n2, n3, n4, z8, z9, z10] at hK'
      have q0 : W.cell? ⟨go_, 0, none⟩ = some (.slice A0 tl.length c0) := h.ps.hc
      refine event_step (W := W) (w1 := W) (v := ?_) (by rfl) ?_ ?_
      rotate_left
      ·(try simp only [aD4, cond_true, cond_false])
       go_simp
       first | with_reducible rfl | rfl
      refine hK' _ _ (⟨A78, c78, A79, c79, ?_, h⟩)
      show Act.put _ (some 76) _ = _
      simp only [aD4, Act.put, List.setIfInBounds_toArray, List.set_cons_zero, List.set_cons_succ, i64_w, i32_w]
      rfl
     ·
      have z7 := zz_ (fun h => hcl 7 _ h rfl 6 (by decide)) hbi
      have z8 := zz_ (fun h => hcl 8 _ h rfl 7 (by decide)) z7
      have z9 := zz_ (fun h => hcl 9 _ h rfl 6 (by decide)) hbi
      have z10 := zz_ (fun h => hcl 10 _ h rfl 6 (by decide)) hbi
      simp only [hbi, z7, z8, z9, z10] at hI
      obtain ⟨A78, c78, A79, c79, rfl, h⟩ := hI
      refine wpOp_step rfl (fun K' hK' => ?_)
      simp (decide := true) only [if_true, if_false, reduceIte, z7, z8, z9, z10] at hK'
      refine event_step (W := W) (w1 := W) (v := (.agg #[(.int .i64 9), (.int .i64 0), (.int .i64 0), (.int .i64 0), (.int .i64 0), (.slice none 0 0), (.slice none 0 0), (.slice none 0 0)])) (by rfl) ?_ ?_
      ·(try simp only [aD4, cond_true, cond_false])
       go_simp
       (try rfl)
      refine hK' _ _ (⟨A78, c78, A79, c79, ?_, h⟩)
      show Act.put _ (some 77) _ = _
      simp only [aD4, Act.put, List.setIfInBounds_toArray, List.set_cons_zero, List.set_cons_succ, i64_w, i32_w]
      rfl
     ·
      have hn_ := hneed _ rfl
      have n6 := hn_ 6 (by decide)
      have z8 := zz_ (fun h => hcl 8 _ h rfl 7 (by decide)) hbi
      have z9 := zz_ (fun h => hcl 9 _ h rfl 7 (by decide)) hbi
      have z10 := zz_ (fun h => hcl 10 _ h rfl 7 (by decide)) hbi
      simp only [hbi, n6, z8, z9, z10] at hI
      obtain ⟨A78, c78, A79, c79, rfl, h⟩ := hI
      refine wpOp_step rfl (fun K' hK' => ?_)
      simp (decide := true) only [if_true, if_false, reduceIte, n6, z8, z9, z10] at hK'
      have hs := h.ps.hs
      refine Kd.N_lit_step k37 W.heap.size 37 ?hg (N' := 78) ?hd (w0 := W) (xs := [(⟨9, 0, 0, ⟨0, 0, []⟩, [], []⟩ : S37)]) (inner := [(.int .i64 9), (.int .i64 0), (.int .i64 0), (.int .i64 0), (.int .i64 0), (.slice none 0 0), (.slice none 0 0), (.slice none 0 0)]) (ok := fun q => W0.heap.size ≤ q) (okp := fun _ => False) ?hr ?hp (fun _ hq => hq.elim) ?hf (Below.refl _ _) (Nat.le_refl _) (by simp) ?_
      case hd => rfl
      case hg => rfl
      case hr => (try simp only [aD4, cond_true, cond_false]); first | (go_simp; done) | (go_simp; rfl)
      case hp => exact Reps.c8 (show Kd.FK k37 _ _ (⟨9, 0, 0, ⟨0, 0, []⟩, [], []⟩ : S37) [(.int .i64 9), (.int .i64 0), (.int .i64 0), (.int .i64 0), (.int .i64 0), (.slice none 0 0), (.slice none 0 0), (.slice none 0 0)] from k37_mkF _ _ (⟨9, 0, 0, ⟨0, 0, []⟩, [], []⟩ : S37) (Nat.le_refl _) (Kd.F_nil _ _ _) (Nat.le_refl _) (Kd.F_nil _ _ _) (Nat.le_refl _) (Kd.F_nil _ _ _)) (Reps.none _ _)
      case hf => exact h.hW
      intro v1 W' hn hb hg _
      obtain ⟨A, c, rfl⟩ := Kd.N_slice hn
      refine hK' _ _ (⟨A, c, A79, c79, ?_, ⟨h.ps.below hb, fun _ _ => Kd.N_lower hn h.hW, h.hu, Nat.le_trans h.hW hb.size⟩⟩)
      show Act.put _ (some 78) _ = _
      simp only [aD4, Act.put, List.setIfInBounds_toArray, List.set_cons_zero, List.set_cons_succ]
      rfl
     ·
      have hn_ := hneed _ rfl
      have n5 := hn_ 5 (by decide)
      have n7 := hn_ 7 (by decide)
      have n4 := hcl 5 _ n5 rfl 4 (by decide)
      have n6 := hcl 7 _ n7 rfl 6 (by decide)
      have n3 := hcl 4 _ n4 rfl 3 (by decide)
      have n2 := hcl 3 _ n3 rfl 2 (by decide)
      have z9 := zz_ (fun h => hcl 9 _ h rfl 8 (by decide)) hbi
      have z10 := zz_ (fun h => hcl 10 _ h rfl 8 (by decide)) hbi
      simp only [hbi, n2, n3, n4, n5, n6, n7, z9, z10] at hI
      obtain ⟨A78, c78, A79, c79, rfl, h⟩ := hI
      refine wpOp_step rfl (fun K' hK' => ?_)
      simp (decide := true) only [if_true, if_false, reduceIte, n2, n3, n4, n5, n6, n7, z9, z10] at hK'
      obtain ⟨ok1, hfr1, hne1, hN1, up1⟩ := TG_with h.ps.tg
      have hs := HSd.out
      have hW := h.hW
      have hn78 := h.h78 rfl rfl
      have hw := h.ps.wf.hK.1
      have hcap := CAP.out
      have hu := h.hu
      refine Kd.N_append_rows_step k37 (w0 := W) w.heap.size (by rfl) (.tmp 76) (.tmp 78) 31 37 (.agg #[(.int .i64 0), (.int .i64 0), (.int .i64 0), (.int .i64 0), (.int .i64 0), (.slice none 0 0), (.slice none 0 0), (.slice none 0 0)]) 112 rfl Try.underlying31 info37 rfl (by decide) (by omega) (.slice A0 tl.length c0) tl [(⟨9, 0, 0, ⟨0, 0, []⟩, [], []⟩ : S37)] A78 1 c78 ok1 (fun q => W0.heap.size ≤ q) rfl rfl hN1 (Kd.N_F hn78) ?aK ?aF (Below.refl _ _) hw ?aL ?_
      case aK => exact fun q hq => ⟨hfr1 q (Nat.le_trans hs hq), fun e => by have := hu q e.symm; omega⟩
      case aF => exact fun q hq => hfr1 q (Nat.le_trans hs (Nat.le_trans hW hq))
      case aL => omega
      intro v1 W' hn hb hg hat
      obtain ⟨A, c, e1⟩ := Kd.N_slice hn
      rw [List.length_append, List.length_singleton] at e1
      subst e1
      refine hK' _ _ (⟨A78, c78, A, c, ?_, ⟨h.ps.grown hg (up1 _ _ _ hg hn), (fun _ e => Bool.noConfusion e), hu, Nat.le_trans hW hg.size⟩⟩)
      show Act.put _ (some 79) _ = _
      simp only [aD4, Act.put, List.setIfInBounds_toArray, List.set_cons_zero, List.set_cons_succ]
      rfl
     ·
      have hn_ := hneed _ rfl
      have n0 := hn_ 0 (by decide)
      have n1 := hn_ 1 (by decide)
      have n2 := hn_ 2 (by decide)
      have n3 := hn_ 3 (by decide)
      have n4 := hn_ 4 (by decide)
      have n5 := hn_ 5 (by decide)
      have n6 := hn_ 6 (by decide)
      have n7 := hn_ 7 (by decide)
      have n8 := hn_ 8 (by decide)
      have z10 := zz_ (fun h => hcl 10 _ h rfl 9 (by decide)) hbi
      simp only [hbi, n0, n1, n2, n3, n4, n5, n6, n7, n8, z10] at hI
      obtain ⟨A78, c78, A79, c79, rfl, h⟩ := hI
      refine wpOp_step rfl (fun K' hK' => ?_)
      simp (decide := true) only [if_true, if_false, reduceIte, n0, n1, n2, n3, n4, n5, n6, n7, n8, z10] at hK'
      have l2_ : (0 < t483.length) = True := eq_true LENN.out
      refine event_step (W := W) (w1 := W) (v := ?_) (by rfl) ?_ ?_
      rotate_left
      ·(try simp only [aD4, cond_true, cond_false])
       go_simp
       first | with_reducible rfl | rfl
      refine hK' _ _ (⟨A78, c78, A79, c79, ?_, h⟩)
      show Act.put _ (some 80) _ = _
      simp only [aD4, Act.put, List.setIfInBounds_toArray, List.set_cons_zero, List.set_cons_succ, i64_w, i32_w]
      rfl
     ·
      have hn_ := hneed _ rfl
      have n0 := hn_ 0 (by decide)
      have n1 := hn_ 1 (by decide)
      have n2 := hn_ 2 (by decide)
      have n3 := hn_ 3 (by decide)
      have n4 := hn_ 4 (by decide)
      have n5 := hn_ 5 (by decide)
      have n6 := hn_ 6 (by decide)
      have n7 := hn_ 7 (by decide)
      have n8 := hn_ 8 (by decide)
      have n9 := hn_ 9 (by decide)
      simp only [hbi, n0, n1, n2, n3, n4, n5, n6, n7, n8, n9] at hI
      obtain ⟨A78, c78, A79, c79, rfl, h⟩ := hI
      refine wpOp_step rfl (fun K' hK' => ?_)
      simp (decide := true) only [if_true, if_false, reduceIte, n0, n1, n2, n3, n4, n5, n6, n7, n8, n9] at hK'
      have q0 : W.cell? ⟨go_, 0, none⟩ = some (.slice A0 tl.length c0) := h.ps.hc
      have f0 := h.ps.hf
      refine skip_ (w1 := W.setCell ⟨go_, 0, none⟩ (.slice A79 (tl.length + 1) c79)) (by rfl) rfl ?_ ?_
      ·(try simp only [aD4, cond_true, cond_false])
       go_simp
       (try rfl)
      have h2 := h.ps.store LENN.out
      refine hK' _ _ (⟨A78, c78, A79, c79, rfl, ⟨h2, (fun _ e => Bool.noConfusion e), h.hu, Nat.le_trans h.hW (by simp [World.setCell])⟩⟩)
    case hdone =>
     intro b a W1 hall hI
     replace hI : LD4 w0 w W0 g s0_0 t489 gb479 gb487 Ao12 co12 t480 ok_ s_ go_ t483 co16 t488 gb A0 c0 tl (b 0) (b 1) (b 2) (b 3) (b 4) (b 5) (b 6) (b 7) (b 8) (b 9) (b 10) a W1 := hI
     rw [hall 0 (by decide), hall 1 (by decide), hall 2 (by decide), hall 3 (by decide), hall 4 (by decide), hall 5 (by decide), hall 6 (by decide), hall 7 (by decide), hall 8 (by decide), hall 9 (by decide), hall 10 (by decide)] at hI
     obtain ⟨A78, c78, A79, c79, rfl, h⟩ := hI
     simp only [aD4, cond_true]
     have HP5 := am h.ps
     clear h hall
     have p3_0 : W1.cell? ⟨gb487, 0, none⟩ = some (.slice Ao12 t480.length co12) := blk_cell HP5.out.wf.h3 0
     have p3_1 : W1.cell? ⟨gb487, 1, none⟩ = some (.slice (some ⟨go_, 0, none⟩) t483.length co16) := blk_cell HP5.out.wf.h3 1
     have p2_0 : W1.cell? ⟨gb479, 0, none⟩ = some (.slice none 0 0) := blk_cell HP5.out.wf.h2 0
     have p2_1 : W1.cell? ⟨gb479, 1, none⟩ = some (.slice none 0 0) := blk_cell HP5.out.wf.h2 1
     have f2_0 := blk_frozen HP5.out.wf.h2 0
     have f2_1 := blk_frozen HP5.out.wf.h2 1
     go_wp2
     have hE := HP5.out.done LENN.out GW479.out HOK.out
     rw [RT.out]
     refine bodyPost_ret (results_cell_row rfl _ _ gb479 26 #[.slice Ao12 t480.length co12, .slice (some ⟨go_, 0, none⟩) t483.length co16] (0, 0) _ rfl hE.1 Try.underlying26 rfl (by kernel_rfl)) rfl ?_
     exact ⟨_, _, rfl, hE.2.1, hE.2.2.1, hE.2.2.2.1, hE.2.2.2.2.1, hE.2.2.2.2.2⟩
 rw [if_neg c93] at H
 have c93b0 : (t488 == 4) = false := beq_eq_false_iff_ne.mpr c93
 have c93b1 : (t488 != 4) = true := bne_iff_ne.mpr c93
 simp only [Option.some.injEq, Prod.mk.injEq] at H
 obtain ⟨rfl, rfl, rfl⟩ := H
 have n9_ := am (TF_N HO485.out)
 clear HO485
 have HO485 := n9_
 clear n9_
 obtain ⟨hcz115_0, hcz115_1, hfz115_0, hfz115_1⟩ := bcf2_ BK487.out
 have hnb116 := NB479_0.out
 have hnc116 := NB0_479.out
 obtain ⟨hcz117_0, hcz117_1, hfz117_0, hfz117_1⟩ := bcf2_ BK479.out
 go_wp2
 refine bodyPost_ret (results_cell_row rfl _ _ gb479 26 #[.slice Ao12 t480.length co12, .slice Ao16 t483.length co16] (0, 0) _ rfl (by (with_reducible repeat (first | refine blk_drewN ?_ _ | refine blk_drew ?_ | refine blk_alloc ?_ _)); refine blk_put (cs := #[.slice Ao12 t480.length co12, .slice none 0 0]) ?_ 1 _ rfl; (with_reducible repeat (first | refine blk_drewN ?_ _ | refine blk_drew ?_ | refine blk_alloc ?_ _)); refine blk_put (cs := #[.slice none 0 0, .slice none 0 0]) ?_ 0 _ rfl; (with_reducible repeat (first | refine blk_drewN ?_ _ | refine blk_drew ?_ | refine blk_alloc ?_ _)); exact BK479.out) Try.underlying26 rfl (by kernel_rfl)) rfl ?_
 exact ⟨_, _, ab14_, by (with_reducible repeat (first | apply Kd.R_alloc | apply Kd.R_drewN | apply Kd.R_drew)); exact Kd.R_mono (Kd.R_far (p := ⟨gb479, 1, none⟩) (Kd.R_far (p := ⟨gb479, 0, none⟩) (Kd.R_types HO482.out BK479.out (by decide)) (fun _ hk => hk.2) (.slice Ao12 t480.length co12)) (fun _ hk => hk.2) (.slice Ao16 t483.length co16)) (fun _ hk => hk.1.1), by (with_reducible repeat (first | apply Kd.N_alloc | apply Kd.N_drewN | apply Kd.N_drew)); exact Kd.N_mono (Kd.N_far (p := ⟨gb479, 1, none⟩) (Kd.N_far (p := ⟨gb479, 0, none⟩) (Kd.N_mono HO485.out (fun k_ hk => (⟨hk, hk.1.2.2.1⟩ : _ ∧ k_ ≠ gb479))) (fun _ hk => hk.2) (.slice Ao12 t480.length co12)) (fun _ hk => hk.2) (.slice Ao16 t483.length co16)) (fun _ hk => ⟨hk.1.1.1, hk.1.1.2.1⟩), ab12_, ab16_, ab7_⟩
theorem spec_l6Open.calls (A0 : Option Addr) (c0 : Nat) (l0 : List Int) (r1 : List Int) (r2 : Int) (w0 w : World) (hB : Below w0.heap.size w0 w) (hr0 : Kd.C (Kd.int .u8) w0 A0 l0.length l0) (hc0 : l0.length ≤ c0) (h : spec_l6Open.f l0 = some (r1, r2)) :
  Calls Try.prog 30 #[.slice A0 l0.length c0] w fun e w' => ∃ g_ : Nat, e = .returned (.pointer (some ⟨g_, 0, none⟩)) ∧ IsS66 w0 w' g_ r1 r2 ∧ Below w0.heap.size w0 w' ∧ Below w.heap.size w w' := by
 have hu66 := Try.underlying66
 have HR0 := am hr0
 have HC0 := am hc0
 clear hr0 hc0
 have HBW := am (Below.refl w.heap.size w)
 have HW0 := am hB.size
 have HB := am hB
 clear hB
 have H : (if (l0.length : Int) > 2000 then (if 2000 ≤ (l0.length : Int) then (some (l0.take 2000, 0)) else (none)) else (some (l0, 0))) = some (r1, r2) := h
 clear h
 by_cases c2 : (l0.length : Int) > 2000
 ·rw [if_pos c2] at H
  have c2b0 : decide (2000 < (l0.length : Int)) = true := decide_eq_true c2
  have c2b1 : decide (2000 < l0.length) = true := decide_eq_true (by omega)
  clear c2
  by_cases c3 : 2000 ≤ (l0.length : Int)
  ·rw [if_pos c3] at H
   have c3b0 := eq_true c3
   have c3b1 : decide (2000 ≤ (l0.length : Int)) = true := decide_eq_true c3
   clear c3
   simp only [Option.some.injEq, Prod.mk.injEq] at H
   obtain ⟨rfl, rfl⟩ := H
   obtain ⟨i04, hi04, _, hsz4, _⟩ := info_parts info5
   obtain ⟨hcut4, hA4, hC4⟩ := print_take_of (P := Try.prog) (Value.int .u8) 0 22 5 .i64 Try.underlying22 hi04 hsz4 A0 c0 l0 2000 (by omega) (of_decide_eq_true (by first | (with_reducible assumption) | assumption)) HC0.out
   have HR523 := am (Kd.C_of_reads (h1 := fun _ => rfl) (hA4 _ (Kd.reads_of_C HR0.out)))
   have HC523 := am hC4
   clear hA4 hC4 hi04 hsz4
   go_enter Try.func30, Try.ntmps30
   go_wp2_with (first | ((with_reducible refine gate_dst (N := 10) rfl ?_); refine box_event ?hg (N := 10) ?hd (cs := #[.slice A0 (l0.take 2000).length c0, .int .i64 0]) (t := 66) ?hr ?_; (case hd => rfl); (case hg => rfl); (case hr => first | (go_simp; done) | (go_simp; rfl)); intro gb524 hg w5 hbox hb; have n0_ := am (below_step HBW.out hb); have n1_ := am (below_step ab2_ hb); have n2_ := am (hbox); have n3_ := am ((by rw [hg]; exact (below_size ab71_) : w.heap.size ≤ gb524)); have n4_ := am ((Nat.le_trans HW0.out (by rw [hg]; exact (below_size ab71_) : w.heap.size ≤ gb524) : w0.heap.size ≤ gb524)); clear HBW HB; have HBW := n0_; have HB := n1_; have BK524 := n2_; have GW524 := n3_; have GE524 := n4_; clear n0_ n1_ n2_ n3_ n4_ hb hbox hg))
   go_ret
   exact ⟨_, rfl, (show IsS66 w0 _ gb524 (l0.take 2000) 0 from ⟨_, _, by (with_reducible repeat (first | refine blk_drewN ?_ _ | refine blk_drew ?_ | refine blk_alloc ?_ _)); exact BK524.out, GE524.out, HR523.out⟩), by repeat (first | (with_reducible first | exact HB.out | apply below_alloc | apply pw_below_drewN | apply below_drew1 | refine below_set ?_ GE524.out) | exact HB.out), by repeat (first | (with_reducible first | exact HBW.out | apply below_alloc | apply pw_below_drewN | apply below_drew1 | refine below_set ?_ GW524.out) | exact HBW.out)⟩
  rw [if_neg c3] at H
  exact absurd H (by simp)
 rw [if_neg c2] at H
 have c2b0 : decide (2000 < (l0.length : Int)) = false := decide_eq_false c2
 have c2b1 : decide (2000 < l0.length) = false := decide_eq_false (by omega)
 clear c2
 simp only [Option.some.injEq, Prod.mk.injEq] at H
 obtain ⟨rfl, rfl⟩ := H
 go_enter Try.func30, Try.ntmps30
 go_wp2_with (first | ((with_reducible refine gate_dst (N := 10) rfl ?_); refine box_event ?hg (N := 10) ?hd (cs := #[.slice A0 l0.length c0, .int .i64 0]) (t := 66) ?hr ?_; (case hd => rfl); (case hg => rfl); (case hr => first | (go_simp; done) | (go_simp; rfl)); intro gb525 hg w6 hbox hb; have n0_ := am (below_step HBW.out hb); have n1_ := am (below_step ab2_ hb); have n2_ := am (hbox); have n3_ := am ((by rw [hg]; exact (below_size ab71_) : w.heap.size ≤ gb525)); have n4_ := am ((Nat.le_trans HW0.out (by rw [hg]; exact (below_size ab71_) : w.heap.size ≤ gb525) : w0.heap.size ≤ gb525)); clear HBW HB; have HBW := n0_; have HB := n1_; have BK525 := n2_; have GW525 := n3_; have GE525 := n4_; clear n0_ n1_ n2_ n3_ n4_ hb hbox hg))
 go_ret
 exact ⟨_, rfl, (show IsS66 w0 _ gb525 l0 0 from ⟨_, _, by (with_reducible repeat (first | refine blk_drewN ?_ _ | refine blk_drew ?_ | refine blk_alloc ?_ _)); exact BK525.out, GE525.out, HR0.out⟩), by repeat (first | (with_reducible first | exact HB.out | apply below_alloc | apply pw_below_drewN | apply below_drew1 | refine below_set ?_ GE525.out) | exact HB.out), by repeat (first | (with_reducible first | exact HBW.out | apply below_alloc | apply pw_below_drewN | apply below_drew1 | refine below_set ?_ GW525.out) | exact HBW.out)⟩
theorem spec_DrawProgramPlain.mono : ∀ a0 k, LeO (spec_DrawProgramPlain.f k a0) (spec_DrawProgramPlain.f (k + 1) a0) := by
 intro a0 k
 unfold spec_DrawProgramPlain.f
 repeat' first
   | (with_reducible exact spec_l92Wrong.mono _ _ _)
   | (with_reducible exact LeO.refl _)
   | (with_reducible exact LeO.none _)
   | (with_reducible refine LeO.ite ?_ ?_)
   | (with_reducible refine LeO.bind ?_ (fun _ => ?_))
theorem spec_DrawProgramPlain.calls (k : Nat) (A0 : Option Addr) (c0 : Nat) (l0 : List Int) (r1 : List Int) (r2 : List (List (S37))) (w : World) (hr0 : Kd.C (Kd.int .u8) w A0 l0.length l0) (hc0 : l0.length ≤ c0) (h : spec_DrawProgramPlain.f k l0 = some (r1, r2)) :
  Calls Try.prog 22 #[.slice A0 l0.length c0] w fun e w' => ∃ v0_ v1_ : Value, e = .returned (.agg #[v0_, v1_]) ∧ Kd.R (Kd.int .i64) 3 w' w.heap.size (fun k_ => (w.heap.size ≤ k_)) v0_ r1 ∧ Kd.N (Kd.slice 37 k37) 31 w' w.heap.size (fun k_ => (w.heap.size ≤ k_) ∧ some k_ ≠ (v0_ : Value).ownBlock) v1_ r2 ∧ Below w.heap.size w w' := by
 have hu26 := Try.underlying26
 have HR0 := am hr0
 have HC0 := am hc0
 clear hr0 hc0
 have HB := am (Below.refl w.heap.size w)
 have H : ((spec_l6Open.f l0).bind fun bt684 => ((spec_l92Wrong.f k bt684.1 bt684.2).bind fun bt687 => (some (bt687.1, bt687.2.1)))) = some (r1, r2) := h
 clear h
 obtain ⟨⟨t684, t685⟩, A20, H⟩ := bsm H
 (try dsimp only at H)
 have A2 := am A20
 clear A20
 obtain ⟨⟨t687, t690, t693⟩, A30, H⟩ := bsm H
 (try dsimp only at H)
 have A3 := am A30
 clear A30
 simp only [Option.some.injEq, Prod.mk.injEq] at H
 obtain ⟨rfl, rfl⟩ := H
 go_enter Try.func22, Try.ntmps22
 go_wp2_with (first | ((with_reducible refine gate_dst (N := 2) rfl ?_); refine box_event ?hg (N := 2) ?hd (cs := #[.slice none 0 0, .slice none 0 0]) (t := 26) ?hr ?_; (case hd => rfl); (case hg => rfl); (case hr => first | (go_simp; done) | (go_simp; rfl)); intro gb683 hg w4 hbox hb; have n0_ := am (below_step ab2_ hb); have n1_ := am (hbox); have n2_ := am ((by rw [hg]; exact (below_size ab2_) : w.heap.size ≤ gb683)); have n3_ := am ((by rw [hg]; exact (below_size ab2_) : w.heap.size ≤ gb683)); clear HB; have HB := n0_; have BK683 := n1_; have GW683 := n2_; have GE683 := n3_; clear n0_ n1_ n2_ n3_ hb hbox hg) | ((with_reducible refine gate_callee (f := 30) rfl ?_); refine goesL_ (some 4) rfl rfl Try.func30 (by kernel_rfl) rfl #[.slice A0 l0.length c0] rfl ab1_ ?_; (with_reducible refine (spec_l6Open.calls _ _ l0 t684 t685 w _ ?side1 ?side2 ?side3 A2.out).mono ?_); (case side1 => repeat (first | (with_reducible first | exact HB.out | apply below_alloc | apply pw_below_drewN | apply below_drew1 | refine below_set ?_ GE683.out) | exact HB.out)); (case side2 => exact HR0.out); (case side3 => exact HC0.out); rintro e w5 ⟨g686, rfl, hi, hb, hb2⟩; refine ⟨_, rfl, ?_⟩; have n0_ := am (blk_below (g := gb683) (o := .cells #[.slice none 0 0, .slice none 0 0] 26 (0, 0)) (aG_ BK683.out) hb2); have n1_ := am (hb); have n2_ := am (hi); have n3_ := am (IsS66.ne_blk hi (blk_below (g := gb683) (o := .cells #[.slice none 0 0, .slice none 0 0] 26 (0, 0)) (aG_ BK683.out) hb2) (by decide)); have n4_ := am (Ne.symm (IsS66.ne_blk hi (blk_below (g := gb683) (o := .cells #[.slice none 0 0, .slice none 0 0] 26 (0, 0)) (aG_ BK683.out) hb2) (by decide))); clear BK683 HB; have BK683 := n0_; have HB := n1_; have HI686 := n2_; have NB686_683 := n3_; have NB683_686 := n4_; clear n0_ n1_ n2_ n3_ n4_; (try clear hb); (try clear hb2); (try clear hk); (try clear hi)) | ((with_reducible refine gate_callee (f := 29) rfl ?_); refine goesL_ (some 5) rfl rfl Try.func29 (by kernel_rfl) rfl #[.pointer (some ⟨g686, 0, none⟩)] rfl ab1_ ?_; (with_reducible refine (spec_l92Wrong.calls k g686 t684 t685 t687 t690 t693 w _ ?side1 ?side2 A3.out).mono ?_); (case side1 => repeat (first | (with_reducible first | exact HI686.out | apply IsS66.alloc | apply IsS66.drewN | apply IsS66.drew | apply IsS66.set_1 | refine IsS66.far ?_ NB686_683.out _) | exact HI686.out)); (case side2 => exact ab56_); rintro e w6 ⟨v688, v691, rfl, ho0, ho1, hi, hb, hk⟩; refine ⟨_, rfl, ?_⟩; have n0_ := am (KeepBut.blk hk (g' := gb683) (o := .cells #[.slice none 0 0, .slice none 0 0] 26 (0, 0)) (aG_ BK683.out) NB683_686.out (by simp)); have n1_ := am (Kd.R_lower (Kd.R_newM (M := fun k_ => (w.heap.size ≤ k_)) (Kd.R_mono (ok' := fun k_ => True) ho0 (fun _ hk_ => trivial)) (below_size ab56_) (fun k_ h_ => h_)) (below_size ab56_)); have n2_ := am (Kd.N_lower (Kd.N_mono (ok' := fun k_ => (w.heap.size ≤ k_) ∧ some k_ ≠ (v688 : Value).ownBlock ∧ k_ ≠ gb683 ∧ k_ ≠ g686) ho1 (fun k_ hk_ => ⟨(Nat.le_trans (below_size ab56_) hk_.1), hk_.2, (Kd.freshB (g := gb683) (o := .cells #[.slice none 0 0, .slice none 0 0] 26 (0, 0)) (aG_ BK683.out) k_ hk_.1), (IsS66.fresh (by repeat (first | (with_reducible first | exact HI686.out | apply IsS66.alloc | apply IsS66.drewN | apply IsS66.drew | apply IsS66.set_1 | refine IsS66.far ?_ NB686_683.out _) | exact HI686.out)) k_ hk_.1)⟩)) (below_size ab56_)); have n3_ := am (hb); have n4_ := am (hi); clear BK683 HB HI686; have BK683 := n0_; have HO689 := n1_; have HO692 := n2_; have HB := n3_; have HI686 := n4_; clear n0_ n1_ n2_ n3_ n4_; (try clear hb); (try clear hb2); (try clear hk); (try clear hi); (try clear ho0); (try clear ho1); obtain ⟨Ao7, co7, eo7⟩ := Kd.R_slice HO689.out; subst eo7; have hnb8 := NB683_686.out; have hnc8 := NB686_683.out; obtain ⟨hcz9_0, hcz9_1, hfz9_0, hfz9_1⟩ := bcf2_ BK683.out; obtain ⟨Ao10, co10, eo10⟩ := Kd.N_slice HO692.out; subst eo10))
 refine bodyPost_ret (results_cell_row rfl _ _ gb683 26 #[.slice Ao7 t687.length co7, .slice Ao10 t690.length co10] (0, 0) _ rfl (by (with_reducible repeat (first | refine blk_drewN ?_ _ | refine blk_drew ?_ | refine blk_alloc ?_ _)); refine blk_put (cs := #[.slice Ao7 t687.length co7, .slice none 0 0]) ?_ 1 _ rfl; (with_reducible repeat (first | refine blk_drewN ?_ _ | refine blk_drew ?_ | refine blk_alloc ?_ _)); refine blk_put (cs := #[.slice none 0 0, .slice none 0 0]) ?_ 0 _ rfl; (with_reducible repeat (first | refine blk_drewN ?_ _ | refine blk_drew ?_ | refine blk_alloc ?_ _)); exact BK683.out) Try.underlying26 rfl (by kernel_rfl)) rfl ?_
 exact ⟨_, _, ab14_, by (with_reducible repeat (first | apply Kd.R_alloc | apply Kd.R_drewN | apply Kd.R_drew)); exact Kd.R_mono (Kd.R_far (p := ⟨gb683, 1, none⟩) (Kd.R_far (p := ⟨gb683, 0, none⟩) (Kd.R_types HO689.out BK683.out (by decide)) (fun _ hk => hk.2) (.slice Ao7 t687.length co7)) (fun _ hk => hk.2) (.slice Ao10 t690.length co10)) (fun _ hk => hk.1.1), by (with_reducible repeat (first | apply Kd.N_alloc | apply Kd.N_drewN | apply Kd.N_drew)); exact Kd.N_mono (Kd.N_far (p := ⟨gb683, 1, none⟩) (Kd.N_far (p := ⟨gb683, 0, none⟩) (Kd.N_mono HO692.out (fun k_ hk => (⟨hk, hk.2.2.1⟩ : _ ∧ k_ ≠ gb683))) (fun _ hk => hk.2) (.slice Ao7 t687.length co7)) (fun _ hk => hk.2) (.slice Ao10 t690.length co10)) (fun _ hk => ⟨hk.1.1, hk.1.2.1⟩), ab56_⟩
end Go.Proofs.Ytpcbfcaacilghaa.PA


/- Part 6 of the proof of FnStmtsFoldOne. -/
import Derived.Test.YtodhbeeibagiaaaQFnStmtsFoldOne4
import Derived.Laws.BitsLemmas
set_option maxHeartbeats 8000000
set_option maxRecDepth 100000
namespace Go.Proofs.Ytodhbeeibagiaaa.PA
open Go.RowKit Go.Proofs.YtodhbeeibagiaaaW.PrintWords Go.Proofs.YtodhbeeibagiaaaW.PrintLast Go.Proofs.YtodhbeeibagiaaaW.PrintMore
attribute [local go_sem] max2_int min2_int max_two min_two max_three min_three max_four min_four
set_option linter.unusedVariables false
set_option linter.unusedSimpArgs false
theorem spec_StmtsFold.mono : ∀ a0 k, LeO (spec_StmtsFold.f k a0) (spec_StmtsFold.f (k + 1) a0) := by
 intro a0 k
 unfold spec_StmtsFold.f
 repeat' first
   | (with_reducible exact spec_StmtsValid.mono _ _)
   | (with_reducible exact spec_l11FoldAll.mono _ _)
   | (with_reducible exact LeO.refl _)
   | (with_reducible exact LeO.none _)
   | (with_reducible refine LeO.ite ?_ ?_)
   | (with_reducible refine LeO.bind ?_ (fun _ => ?_))
theorem spec_StmtsFold.calls (k : Nat) (A0 : Option Addr) (c0 : Nat) (l0 : List (S35)) (r1 : List (S35)) (r2 : Bool) (w : World) (hr0 : Kd.C k35 w A0 l0.length l0) (hc0 : l0.length ≤ c0) (h : spec_StmtsFold.f k l0 = some (r1, r2)) :
  Calls Try.prog 14 #[.slice A0 l0.length c0] w fun e w' => ∃ v0_ : Value, e = .returned (.tuple #[v0_, .bool r2]) ∧ Kd.N k35 35 w' w.heap.size (fun k_ => (w.heap.size ≤ k_)) v0_ r1 ∧ Below w.heap.size w w' := by
 have HR0 := am hr0
 have HC0 := am hc0
 clear hr0 hc0
 have HB := am (Below.refl w.heap.size w)
 have H : ((spec_StmtsValid.f k l0).bind fun t681 => (if t681 = true then ((spec_l11FoldAll.f k l0).bind fun t682 => (some (t682, true))) else (some ((([] : List (S35))), false)))) = some (r1, r2) := h
 clear h
 obtain ⟨t681, A20, H⟩ := bsm H
 (try dsimp only at H)
 have A2 := am A20
 clear A20
 by_cases c3 : t681 = true
 ·subst c3
  rw [if_pos rfl] at H
  obtain ⟨t682, A40, H⟩ := bsm H
  (try dsimp only at H)
  have A4 := am A40
  clear A40
  simp only [Option.some.injEq, Prod.mk.injEq] at H
  obtain ⟨rfl, rfl⟩ := H
  go_enter Try.func14, Try.ntmps14
  go_wp2_with (first | ((with_reducible refine gate_callee (f := 47) rfl ?_); refine goesL_ (some 5) rfl rfl Try.func47 (by kernel_rfl) rfl #[.slice A0 l0.length c0] rfl ab1_ ?_; (with_reducible refine (spec_StmtsValid.calls k _ _ l0 true _ ?side1 HC0.out A2.out).mono ?_); (case side1 => repeat (first | exact HR0.out | (with_reducible refine Kd.C_alloc ?_ _) | (with_reducible refine Kd.C_drewN ?_ _) | (with_reducible refine Kd.C_drew ?_))); rintro e w5 ⟨rfl, hb⟩; refine ⟨_, rfl, ?_⟩; replace HB := am (below_step ab2_ hb); (try clear hb); (try clear hb2); (try clear hk); (try clear hi)) | ((with_reducible refine gate_callee (f := 48) rfl ?_); refine goesL_ (some 9) rfl rfl Try.func48 (by kernel_rfl) rfl #[.slice A0 l0.length c0] rfl ab1_ ?_; (with_reducible refine (spec_l11FoldAll.calls k _ _ l0 t682 _ (aC_ (Kd.C_below HR0.out HB.out)) HC0.out A4.out).mono ?_); rintro e w6 ⟨v683, rfl, ho0, hb⟩; refine ⟨_, rfl, ?_⟩; have HO684 := am (Kd.N_lower (Kd.N_mono (ok' := fun k_ => (w.heap.size ≤ k_)) ho0 (fun k_ hk_ => (Nat.le_trans (below_size ab2_) hk_))) (below_size ab2_)); replace HB := am (below_step ab2_ hb); (try clear hb); (try clear hb2); (try clear hk); (try clear hi); (try clear ho0)))
  go_ret2
  exact ⟨_, ab11_, by (with_reducible repeat (first | apply Kd.N_alloc | apply Kd.N_drewN | apply Kd.N_drew)); exact HO684.out, ab2_⟩
 replace c3 := Bool.eq_false_iff.mpr c3
 subst c3
 rw [if_neg (show ¬ (false = true) by decide)] at H
 obtain ⟨y685, hy685⟩ : ∃ y_ : List (S35), y_ = (([] : List (S35))) := ⟨_, rfl⟩
 replace H : (some (y685, false)) = some (r1, r2) := by first | (rw [hy685]; with_reducible exact H) | (have H2_ := (Option.bind_some _ _).symm.trans H; rw [hy685]; with_reducible exact H2_) | (have H2_ := (Option.bind_some _ _).symm.trans H; with_reducible exact H2_) | with_reducible exact H | (rw [hy685]; exact H) | exact H
 have Ny685 := am hy685
 clear hy685
 simp only [Option.some.injEq, Prod.mk.injEq] at H
 obtain ⟨rfl, rfl⟩ := H
 go_enter Try.func14, Try.ntmps14
 go_wp2_with (first | ((with_reducible refine gate_callee (f := 47) rfl ?_); refine goesL_ (some 5) rfl rfl Try.func47 (by kernel_rfl) rfl #[.slice A0 l0.length c0] rfl ab1_ ?_; (with_reducible refine (spec_StmtsValid.calls k _ _ l0 false _ ?side1 HC0.out A2.out).mono ?_); (case side1 => repeat (first | exact HR0.out | (with_reducible refine Kd.C_alloc ?_ _) | (with_reducible refine Kd.C_drewN ?_ _) | (with_reducible refine Kd.C_drew ?_))); rintro e w7 ⟨rfl, hb⟩; refine ⟨_, rfl, ?_⟩; replace HB := am (below_step ab2_ hb); (try clear hb); (try clear hb2); (try clear hk); (try clear hi)) | ((with_reducible refine gate_dst (N := 7) rfl ?_); refine Kd.N_lit k35 _ 35 rfl (N' := 7) rfl (xs := ([] : List (S35))) (inner := []) (ok := (fun k_ => (w.heap.size ≤ k_))) (okp := (fun k_ => (w.heap.size ≤ k_))) rn_ ?hp (fun _ hk => hk) ((show ∀ k_, w7.heap.size ≤ k_ → (fun k_ => (w.heap.size ≤ k_)) k_ from fun k_ hk => (Nat.le_trans (below_size ab2_) hk)) _ (Nat.le_refl _)) (Below.refl _ _) (Nat.le_refl _) (by simp) ?_; (case hp => exact (Reps.none _ _)); intro v686 w8 ho9 hb hg_ hnew_; clear hg_ hnew_; (first | rw [← Ny685.out] at ho9 | (simp only [Int.reduceToNat] at ho9; rw [← Ny685.out] at ho9)); have HO687 := am (Kd.N_lower ho9 (below_size ab2_)); replace HB := am (below_step ab2_ hb); clear hb ho9))
 go_ret2
 exact ⟨_, ab11_, by (with_reducible repeat (first | apply Kd.N_alloc | apply Kd.N_drewN | apply Kd.N_drew)); exact HO687.out, ab2_⟩
theorem laws_sameExpr.mono_l : ∀ k, (∀ y0 y1 y2 y3 y4 y5, LeO (laws_sameExpr.f k y0 y1 y2 y3 y4 y5) (laws_sameExpr.f (k + 1) y0 y1 y2 y3 y4 y5)) ∧ (∀ y0 y1 y2 y3 y4 y5 y6, LeO (laws_sameExpr.j0 k y0 y1 y2 y3 y4 y5 y6) (laws_sameExpr.j0 (k + 1) y0 y1 y2 y3 y4 y5 y6)) ∧ (∀ y0 y1 y2 y3 y4 y5 y6, LeO (laws_sameExpr.l0 k y0 y1 y2 y3 y4 y5 y6) (laws_sameExpr.l0 (k + 1) y0 y1 y2 y3 y4 y5 y6))
 | 0 => ⟨fun _ _ _ _ _ _ r h => by simp [laws_sameExpr.f] at h, fun _ _ _ _ _ _ _ r h => by simp [laws_sameExpr.j0] at h, fun _ _ _ _ _ _ _ r h => by simp [laws_sameExpr.l0] at h⟩
 | k + 1 => by
  obtain ⟨ih0, ih1, ih2⟩ := laws_sameExpr.mono_l k
  refine ⟨?_, ?_, ?_⟩
  ·intro y0 y1 y2 y3 y4 y5
   unfold laws_sameExpr.f
   repeat' first
   | (with_reducible exact ih0 _ _ _ _ _ _)
   | (with_reducible exact ih1 _ _ _ _ _ _ _)
   | (with_reducible exact ih2 _ _ _ _ _ _ _)
   | (with_reducible exact LeO.refl _)
   | (with_reducible exact LeO.none _)
   | (with_reducible refine LeO.ite ?_ ?_)
   | (with_reducible refine LeO.bind ?_ (fun _ => ?_))
  ·intro y0 y1 y2 y3 y4 y5 y6
   unfold laws_sameExpr.j0
   repeat' first
   | (with_reducible exact ih0 _ _ _ _ _ _)
   | (with_reducible exact ih1 _ _ _ _ _ _ _)
   | (with_reducible exact ih2 _ _ _ _ _ _ _)
   | (with_reducible exact LeO.refl _)
   | (with_reducible exact LeO.none _)
   | (with_reducible refine LeO.ite ?_ ?_)
   | (with_reducible refine LeO.bind ?_ (fun _ => ?_))
  ·intro y0 y1 y2 y3 y4 y5 y6
   unfold laws_sameExpr.l0
   repeat' first
   | (with_reducible exact ih0 _ _ _ _ _ _)
   | (with_reducible exact ih1 _ _ _ _ _ _ _)
   | (with_reducible exact ih2 _ _ _ _ _ _ _)
   | (with_reducible exact LeO.refl _)
   | (with_reducible exact LeO.none _)
   | (with_reducible refine LeO.ite ?_ ?_)
   | (with_reducible refine LeO.bind ?_ (fun _ => ?_))
theorem laws_sameExpr.mono : ∀ a0 a1 a2 a3 a4 a5 k, LeO (laws_sameExpr.f k a0 a1 a2 a3 a4 a5) (laws_sameExpr.f (k + 1) a0 a1 a2 a3 a4 a5) := by
 intro a0 a1 a2 a3 a4 a5 k
 obtain ⟨ih0, ih1, ih2⟩ := laws_sameExpr.mono_l k
 exact ih0 a0 a1 a2 a3 a4 a5
def laws_sameExpr.T6 : Bool × List (List Nat × List Nat) := (true, [([], []), ([0], [0]), ([], []), ([1, 2], [1, 2]), ([3], [3]), ([], []), ([5], [5]), ([], []), ([6, 7], [6, 7]), ([8], [8]), ([4, 9], [4, 9]), ([10], [10])])
def laws_sameExpr.B6 : List Nat := [0, 1, 0, 7, 15, 0, 32, 0, 224, 480, 1023, 2047]
theorem laws_sameExpr.tab6 : rtab .any (opsOf Try.f49 6) = laws_sameExpr.T6 := by kernel_rfl
theorem laws_sameExpr.bits6 : waitsOk laws_sameExpr.T6.2 laws_sameExpr.B6 = true := by kernel_rfl
theorem laws_sameExpr.calls (k : Nat) : ∀ (a0_0 : Int) (a0_1 : Int) (A0_2 : Option Addr) (c0_2 : Nat) (l0_2 : List (S32)) (a1_0 : Int) (a1_1 : Int) (A1_2 : Option Addr) (c1_2 : Nat) (l1_2 : List (S32)) (r : Bool) (w : World) (hr0_2 : Kd.C k32 w A0_2 l0_2.length l0_2) (hc0_2 : l0_2.length ≤ c0_2) (hr1_2 : Kd.C k32 w A1_2 l1_2.length l1_2) (hc1_2 : l1_2.length ≤ c1_2) (h : laws_sameExpr.f k a0_0 a0_1 l0_2 a1_0 a1_1 l1_2 = some r),
  Calls Try.prog 49 #[.agg #[.int .i64 a0_0, .int .i64 a0_1, .slice A0_2 l0_2.length c0_2], .agg #[.int .i64 a1_0, .int .i64 a1_1, .slice A1_2 l1_2.length c1_2]] w fun e w' => e = .returned (.bool r) ∧ Below w.heap.size w w' := by
 induction k using Nat.strongRecOn with
 | _ k ih =>
 intro a0_0 a0_1 A0_2 c0_2 l0_2 a1_0 a1_1 A1_2 c1_2 l1_2 r w hr0_2 hc0_2 hr1_2 hc1_2 h
 cases k with
 | zero => exact absurd h (by simp [laws_sameExpr.f])
 | succ k =>
 simp only [laws_sameExpr.f] at h
 have hu32 := Try.underlying32
 have HR0_2 := am hr0_2
 have HC0_2 := am hc0_2
 clear hr0_2 hc0_2
 have HR1_2 := am hr1_2
 have HC1_2 := am hc1_2
 clear hr1_2 hc1_2
 have HB := am (Below.refl w.heap.size w)
 have H : (if a0_0 = a1_0 then (if a0_1 = a1_1 then (laws_sameExpr.j0 k ((l0_2.length : Int) != (l1_2.length : Int)) a0_0 a0_1 l0_2 a1_0 a1_1 l1_2) else (laws_sameExpr.j0 k true a0_0 a0_1 l0_2 a1_0 a1_1 l1_2)) else (laws_sameExpr.j0 k true a0_0 a0_1 l0_2 a1_0 a1_1 l1_2)) = some r := h
 clear h
 have HC3 := am H
 clear H
 go_enter Try.func49, Try.ntmps49
 go_upto_region 1 with (first | ((with_reducible refine gate_dst (N := 2) rfl ?_); (try (refine gate_guard (by rfl) ?_; dsimp only)); refine box_event rfl (N := 2) rfl (cs := #[.int .i64 a0_0, .int .i64 a0_1, .slice A0_2 l0_2.length c0_2]) (t := 32) rn_ ?_; intro gb688 hg w4 hbox hb; have BK688 := am (hbox); have GW688 := am ((by rw [hg]; exact (below_size ab2_) : w.heap.size ≤ gb688)); have GE688 := am ((by rw [hg]; exact (below_size ab2_) : w.heap.size ≤ gb688)); replace HB := am (below_step ab2_ hb); clear hb hbox hg) | ((with_reducible refine gate_dst (N := 3) rfl ?_); (try (refine gate_guard (by rfl) ?_; dsimp only)); refine box_event rfl (N := 3) rfl (cs := #[.int .i64 a1_0, .int .i64 a1_1, .slice A1_2 l1_2.length c1_2]) (t := 32) rn_ ?_; intro gb689 hg w5 hbox hb; have BK689 := am (hbox); have GW689 := am ((by rw [hg]; exact (below_size ab73_) : w.heap.size ≤ gb689)); have GE689 := am ((by rw [hg]; exact (below_size ab73_) : w.heap.size ≤ gb689)); replace HB := am (below_step ab73_ hb); have NB688_689 := am ((by rw [hg]; exact Nat.ne_of_lt (blt_ BK688.out) : gb688 ≠ gb689)); have NB689_688 := am ((by rw [hg]; exact Nat.ne_of_gt (blt_ BK688.out) : gb689 ≠ gb688)); replace BK688 := am (bbl_ BK688.out hb); clear hb hbox hg))
 (try simp only [Act.put, List.setIfInBounds_toArray, List.set_cons_zero, List.set_cons_succ])
 go_cut [26] (fun v26 wc => ∃ (kq : Nat) (x26_2 : Bool), v26 = .bool x26_2 ∧ Aside0 (laws_sameExpr.j0 kq x26_2 a0_0 a0_1 l0_2 a1_0 a1_1 l1_2 = some r) ∧ Aside0 (kq ≤ k) ∧ Aside0 (wc.heap[gb688]? = some (.cells #[.int .i64 a0_0, .int .i64 a0_1, (.slice A0_2 l0_2.length c0_2)] 32 (0, 0))) ∧ Aside0 (wc.heap[gb689]? = some (.cells #[.int .i64 a1_0, .int .i64 a1_1, (.slice A1_2 l1_2.length c1_2)] 32 (0, 0))) ∧ Aside0 (Below w.heap.size w wc))
 case first =>
  have H := HC3.out
  clear HC3
  by_cases c6 : a0_0 = a1_0
  ·rw [if_pos c6] at H
   have c6b0 : (a0_0 == a1_0) = true := beq_iff_eq.mpr c6
   have c6b1 : (a0_0 != a1_0) = false := bne_eq_false_iff_eq.mpr c6
   clear c6
   (first | rw [c6b0] | (simp only [i64_w, i32_w]; rw [c6b0]) | skip)
   by_cases c7 : a0_1 = a1_1
   ·rw [if_pos c7] at H
    have c7b0 : (a0_1 == a1_1) = true := beq_iff_eq.mpr c7
    have c7b1 : (a0_1 != a1_1) = false := bne_eq_false_iff_eq.mpr c7
    clear c7
    have H' := am H
    clear H
    have hnb8 := NB688_689.out
    have hnc8 := NB689_688.out
    obtain ⟨hcz9_0, hcz9_1, hcz9_2, hfz9_0, hfz9_1, hfz9_2⟩ := bcf3_ BK688.out
    obtain ⟨hcz10_0, hcz10_1, hcz10_2, hfz10_0, hfz10_1, hfz10_2⟩ := bcf3_ BK689.out
    go_wp2
    go_meet
    case rel => exact ⟨_, (((l0_2.length : Int) != (l1_2.length : Int))), sd_, H', ⟨by first | omega | exact Nat.le_refl _⟩, ⟨by (with_reducible repeat (first | refine blk_drewN ?_ _ | refine blk_drew ?_ | refine blk_alloc ?_ _)); exact BK688.out⟩, ⟨by (with_reducible repeat (first | refine blk_drewN ?_ _ | refine blk_drew ?_ | refine blk_alloc ?_ _)); exact BK689.out⟩, ⟨ab35_⟩⟩
   rw [if_neg c7] at H
   have c7b0 : (a0_1 == a1_1) = false := beq_eq_false_iff_ne.mpr c7
   have c7b1 : (a0_1 != a1_1) = true := bne_iff_ne.mpr c7
   have H' := am H
   clear H
   have hnb11 := NB688_689.out
   have hnc11 := NB689_688.out
   obtain ⟨hcz12_0, hcz12_1, hcz12_2, hfz12_0, hfz12_1, hfz12_2⟩ := bcf3_ BK688.out
   obtain ⟨hcz13_0, hcz13_1, hcz13_2, hfz13_0, hfz13_1, hfz13_2⟩ := bcf3_ BK689.out
   go_wp2
   go_meet
   case rel => exact ⟨_, (true), sd_, H', ⟨by first | omega | exact Nat.le_refl _⟩, ⟨by (with_reducible repeat (first | refine blk_drewN ?_ _ | refine blk_drew ?_ | refine blk_alloc ?_ _)); exact BK688.out⟩, ⟨by (with_reducible repeat (first | refine blk_drewN ?_ _ | refine blk_drew ?_ | refine blk_alloc ?_ _)); exact BK689.out⟩, ⟨ab35_⟩⟩
  rw [if_neg c6] at H
  have c6b0 : (a0_0 == a1_0) = false := beq_eq_false_iff_ne.mpr c6
  have c6b1 : (a0_0 != a1_0) = true := bne_iff_ne.mpr c6
  (first | rw [c6b0] | (simp only [i64_w, i32_w]; rw [c6b0]) | skip)
  have H' := am H
  clear H
  have hnb14 := NB688_689.out
  have hnc14 := NB689_688.out
  obtain ⟨hcz15_0, hcz15_1, hcz15_2, hfz15_0, hfz15_1, hfz15_2⟩ := bcf3_ BK688.out
  obtain ⟨hcz16_0, hcz16_1, hcz16_2, hfz16_0, hfz16_1, hfz16_2⟩ := bcf3_ BK689.out
  go_wp2
  go_meet
  case rel => exact ⟨_, (true), sd_, H', ⟨by first | omega | exact Nat.le_refl _⟩, ⟨by (with_reducible repeat (first | refine blk_drewN ?_ _ | refine blk_drew ?_ | refine blk_alloc ?_ _)); exact BK688.out⟩, ⟨by (with_reducible repeat (first | refine blk_drewN ?_ _ | refine blk_drew ?_ | refine blk_alloc ?_ _)); exact BK689.out⟩, ⟨ab35_⟩⟩
 case rest =>
  clear HC3
  obtain ⟨kq, x26_2, rfl, HA, HJ2, BK688, BK689, HB⟩ := hcut
  cases kq with
  | zero => exact absurd HA.out (by simp [laws_sameExpr.j0])
  | succ kj2 =>
   have H := HA.out
   clear HA
   simp only [laws_sameExpr.j0] at H
   by_cases c17 : x26_2 = true
   ·subst c17
    rw [if_pos rfl] at H
    obtain rfl := Option.some.inj H
    go_wp2
    go_ret
    exact ⟨rr_, ab35_⟩
   replace c17 := Bool.eq_false_iff.mpr c17
   subst c17
   rw [if_neg (show ¬ (false = true) by decide)] at H
   have H' := am H
   clear H
   go_wp2
   go_loopg [5] kj2 (fun kq v5 w' => ∃ (x5_2 : Int), v5 = .int .i64 x5_2 ∧ Aside0 (laws_sameExpr.l0 kq x5_2 a0_0 a0_1 l0_2 a1_0 a1_1 l1_2 = some r) ∧ Aside0 (kq ≤ kj2) ∧ Aside0 (w'.heap[gb688]? = some (.cells #[.int .i64 a0_0, .int .i64 a0_1, (.slice A0_2 l0_2.length c0_2)] 32 (0, 0))) ∧ Aside0 (w'.heap[gb689]? = some (.cells #[.int .i64 a1_0, .int .i64 a1_1, (.slice A1_2 l1_2.length c1_2)] 32 (0, 0))) ∧ Aside0 (Below w.heap.size w w'))
   case atStart => exact ⟨(0), sd_, H', ⟨Nat.le_refl _⟩, ⟨by (with_reducible repeat (first | refine blk_drewN ?_ _ | refine blk_drew ?_ | refine blk_alloc ?_ _)); exact BK688.out⟩, ⟨by (with_reducible repeat (first | refine blk_drewN ?_ _ | refine blk_drew ?_ | refine blk_alloc ?_ _)); exact BK689.out⟩, ⟨ab35_⟩⟩
   case round =>
    clear H'
    try clear c17
    obtain ⟨x5_2, rfl, HA, HK2, BK688, BK689, HB⟩ := hrel
    cases gk with
    | zero => exact absurd HA.out (by simp [laws_sameExpr.l0])
    | succ k2 =>
     have H := HA.out
     clear HA
     simp only [laws_sameExpr.l0] at H
     by_cases c18 : x5_2 < (l0_2.length : Int)
     ·rw [if_pos c18] at H
      have c18b0 : decide (x5_2 < (l0_2.length : Int)) = true := decide_eq_true c18
      clear c18
      by_cases c19 : 0 ≤ x5_2
      ·rw [if_pos c19] at H
       have c19b0 : decide (0 ≤ x5_2) = true := decide_eq_true c19
       clear c19
       by_cases c20 : x5_2 < (l1_2.length : Int)
       ·rw [if_pos c20] at H
        have c20b0 : decide (x5_2 < (l1_2.length : Int)) = true := decide_eq_true c20
        clear c20
        obtain ⟨t692, A210, H⟩ := bsm H
        (try dsimp only at H)
        have A21 := am A210
        clear A210
        by_cases c22 : t692 = true
        ·subst c22
         rw [if_pos rfl] at H
         have H' := am H
         clear H
         have hnb23 := NB688_689.out
         have hnc23 := NB689_688.out
         obtain ⟨hcz24_0, hcz24_1, hcz24_2, hfz24_0, hfz24_1, hfz24_2⟩ := bcf3_ BK688.out
         try go_wp2
         replace BK688 := am (blk_drew BK688.out)
         replace BK689 := am (blk_drew BK689.out)
         replace HB := am (below_drew1 HB.out)
         have p690 : 0 ≤ (x5_2 : Int) := of_decide_eq_true asm_
         have q690 : x5_2 < (l0_2.length : Int) := of_decide_eq_true asm_
         obtain ⟨ad690, A690_2, c690_2, e690, hx690_0, hx690_1, hx690_2, hl690_2, hi690_2⟩ := at_T32 HR0_2.out x5_2 p690 q690
         have hw690_2 := hx690_2
         have hw690_1 := hx690_1
         have hw690_0 := hx690_0
         cases e690
         replace hx690_0 := (HB.out.cell (World.block_lt_of_cell? w _ hx690_0)).trans hx690_0
         replace hx690_1 := (HB.out.cell (World.block_lt_of_cell? w _ hx690_1)).trans hx690_1
         replace hx690_2 := (HB.out.cell (World.block_lt_of_cell? w _ hx690_2)).trans hx690_2
         have HR690_2 := am hi690_2
         have HC690_2 := am hl690_2
         clear hi690_2 hl690_2
         replace p690 := eq_true p690
         replace q690 := eq_true q690
         have p691 : 0 ≤ (x5_2 : Int) := of_decide_eq_true asm_
         have q691 : x5_2 < (l1_2.length : Int) := of_decide_eq_true asm_
         obtain ⟨ad691, A691_2, c691_2, e691, hx691_0, hx691_1, hx691_2, hl691_2, hi691_2⟩ := at_T32 HR1_2.out x5_2 p691 q691
         have hw691_2 := hx691_2
         have hw691_1 := hx691_1
         have hw691_0 := hx691_0
         cases e691
         replace hx691_0 := (HB.out.cell (World.block_lt_of_cell? w _ hx691_0)).trans hx691_0
         replace hx691_1 := (HB.out.cell (World.block_lt_of_cell? w _ hx691_1)).trans hx691_1
         replace hx691_2 := (HB.out.cell (World.block_lt_of_cell? w _ hx691_2)).trans hx691_2
         have HR691_2 := am hi691_2
         have HC691_2 := am hl691_2
         clear hi691_2 hl691_2
         replace p691 := eq_true p691
         replace q691 := eq_true q691
         refine start_ (n := 12) (S := fun w' => w'.cell? ⟨gb688, 0, none⟩ = some (.int .i64 a0_0) ∧ w'.cell? ⟨gb688, 1, none⟩ = some (.int .i64 a0_1) ∧ w'.cell? ⟨gb688, 2, none⟩ = some (.slice (some ad690) l0_2.length c0_2) ∧ w'.cell? ⟨gb689, 0, none⟩ = some (.int .i64 a1_0) ∧ w'.cell? ⟨gb689, 1, none⟩ = some (.int .i64 a1_1) ∧ w'.cell? ⟨gb689, 2, none⟩ = some (.slice (some ad691) l1_2.length c1_2) ∧ w'.cell? (ad690.add ((x5_2).toNat * 3)) = some (.int .i64 ((rd_T32 l0_2 x5_2).f0)) ∧ w'.cell? ⟨(ad690.add ((x5_2).toNat * 3)).block, (ad690.add ((x5_2).toNat * 3)).off + 1, none⟩ = some (.int .i64 ((rd_T32 l0_2 x5_2).f1)) ∧ w'.cell? ⟨(ad690.add ((x5_2).toNat * 3)).block, (ad690.add ((x5_2).toNat * 3)).off + 2, none⟩ = some (.slice A690_2 ((rd_T32 l0_2 x5_2).f2).length c690_2) ∧ w'.cell? (ad691.add ((x5_2).toNat * 3)) = some (.int .i64 ((rd_T32 l1_2 x5_2).f0)) ∧ w'.cell? ⟨(ad691.add ((x5_2).toNat * 3)).block, (ad691.add ((x5_2).toNat * 3)).off + 1, none⟩ = some (.int .i64 ((rd_T32 l1_2 x5_2).f1)) ∧ w'.cell? ⟨(ad691.add ((x5_2).toNat * 3)).block, (ad691.add ((x5_2).toNat * 3)).off + 2, none⟩ = some (.slice A691_2 ((rd_T32 l1_2 x5_2).f2).length c691_2)) (ds := []) #[false, false, false, false, false, false, false, false, false, false, false, false] (by kernel_rfl) rfl rfl ⟨(blk_cell BK688.out 0).trans rfl, (blk_cell BK688.out 1).trans rfl, (blk_cell BK688.out 2).trans rfl, (blk_cell BK689.out 0).trans rfl, (blk_cell BK689.out 1).trans rfl, (blk_cell BK689.out 2).trans rfl, ((HB.out.cell (World.block_lt_of_cell? w _ hw690_0)).trans hw690_0), ((HB.out.cell (World.block_lt_of_cell? w _ hw690_1)).trans hw690_1), ((HB.out.cell (World.block_lt_of_cell? w _ hw690_2)).trans hw690_2), ((HB.out.cell (World.block_lt_of_cell? w _ hw691_0)).trans hw691_0), ((HB.out.cell (World.block_lt_of_cell? w _ hw691_1)).trans hw691_1), ((HB.out.cell (World.block_lt_of_cell? w _ hw691_2)).trans hw691_2)⟩ (fun hHeld => ?_); refine with_tabW laws_sameExpr.tab6 laws_sameExpr.bits6 (fun HT_ HW_ => ?_)
         generalize wr.drew = w25 at BK688 BK689 HB HR690_2 HR691_2 hx690_0 hx690_1 hx690_2 hx691_0 hx691_1 hx691_2 hHeld ⊢
         refine pure_ (i := 0) (N := some 34) (v := ?_) (a' := ?_) #[true, false, false, false, false, false, false, false, false, false, false, false] rfl rfl (any_of HT_.out (by kernel_rfl)) (fun _ _ _ h => h) (Or.inl ⟨by rfl, ?_⟩) ?_ ?_
         rotate_left
         ·intro w'
          go_simp
          with_reducible rfl
         rotate_left
         ·simp only [Act.put, List.setIfInBounds_toArray, List.set_cons_zero, List.set_cons_succ, i64_w, i32_w]
          rfl
         refine pure_ (i := 2) (N := some 36) (v := ?_) (a' := ?_) #[true, false, true, false, false, false, false, false, false, false, false, false] rfl rfl (any_of HT_.out (by kernel_rfl)) (fun _ _ _ h => h) (Or.inl ⟨by rfl, ?_⟩) ?_ ?_
         rotate_left
         ·intro w'
          go_simp
          with_reducible rfl
         rotate_left
         ·simp only [Act.put, List.setIfInBounds_toArray, List.set_cons_zero, List.set_cons_succ, i64_w, i32_w]
          rfl
         refine pure_ (i := 5) (N := some 39) (v := ?_) (a' := ?_) #[true, false, true, false, false, true, false, false, false, false, false, false] rfl rfl (any_of HT_.out (by kernel_rfl)) (fun _ _ _ h => h) (Or.inl ⟨by rfl, ?_⟩) ?_ ?_
         rotate_left
         ·intro w'
          go_simp
          with_reducible rfl
         rotate_left
         ·simp only [Act.put, List.setIfInBounds_toArray, List.set_cons_zero, List.set_cons_succ, i64_w, i32_w]
          rfl
         refine pure_ (i := 7) (N := some 41) (v := ?_) (a' := ?_) #[true, false, true, false, false, true, false, true, false, false, false, false] rfl rfl (any_of HT_.out (by kernel_rfl)) (fun _ _ _ h => h) (Or.inl ⟨by rfl, ?_⟩) ?_ ?_
         rotate_left
         ·intro w'
          go_simp
          with_reducible rfl
         rotate_left
         ·simp only [Act.put, List.setIfInBounds_toArray, List.set_cons_zero, List.set_cons_succ, i64_w, i32_w]
          rfl
         refine take_ (i := 1) (N := some 35) (v := ?_) (a' := ?_) #[true, true, true, false, false, true, false, true, false, false, false, false] rfl rfl (take_ofW HT_.out HW_.out (by kernel_rfl)) (fun _ _ _ h => h) (Or.inl ⟨by rfl, ?_⟩) hHeld ?_ ?_
         rotate_left
         ·rintro w' ⟨s0, s1, s2, s3, s4, s5, s6, s7, s8, s9, s10, s11⟩
          go_simp
          with_reducible rfl
         rotate_left
         ·simp only [Act.put, List.setIfInBounds_toArray, List.set_cons_zero, List.set_cons_succ, i64_w, i32_w]
          rfl
         refine pure_ (i := 3) (N := some 37) (v := ?_) (a' := ?_) #[true, true, true, true, false, true, false, true, false, false, false, false] rfl rfl (any_of HT_.out (by kernel_rfl)) (fun _ _ _ h => h) (Or.inl ⟨by rfl, ?_⟩) ?_ ?_
         rotate_left
         ·intro w'
          go_simp
          with_reducible rfl
         rotate_left
         ·simp only [Act.put, List.setIfInBounds_toArray, List.set_cons_zero, List.set_cons_succ, i64_w, i32_w]
          rfl
         refine take_ (i := 4) (N := some 38) (v := ?_) (a' := ?_) #[true, true, true, true, true, true, false, true, false, false, false, false] rfl rfl (take_ofW HT_.out HW_.out (by kernel_rfl)) (fun _ _ _ h => h) (Or.inl ⟨by rfl, ?_⟩) hHeld ?_ ?_
         rotate_left
         ·rintro w' ⟨s0, s1, s2, s3, s4, s5, s6, s7, s8, s9, s10, s11⟩
          go_simp
          with_reducible rfl
         rotate_left
         ·simp only [Act.put, List.setIfInBounds_toArray, List.set_cons_zero, List.set_cons_succ, i64_w, i32_w]
          rfl
         refine take_ (i := 6) (N := some 40) (v := ?_) (a' := ?_) #[true, true, true, true, true, true, true, true, false, false, false, false] rfl rfl (take_ofW HT_.out HW_.out (by kernel_rfl)) (fun _ _ _ h => h) (Or.inl ⟨by rfl, ?_⟩) hHeld ?_ ?_
         rotate_left
         ·rintro w' ⟨s0, s1, s2, s3, s4, s5, s6, s7, s8, s9, s10, s11⟩
          go_simp
          with_reducible rfl
         rotate_left
         ·simp only [Act.put, List.setIfInBounds_toArray, List.set_cons_zero, List.set_cons_succ, i64_w, i32_w]
          rfl
         refine pure_ (i := 8) (N := some 42) (v := ?_) (a' := ?_) #[true, true, true, true, true, true, true, true, true, false, false, false] rfl rfl (any_of HT_.out (by kernel_rfl)) (fun _ _ _ h => h) (Or.inl ⟨by rfl, ?_⟩) ?_ ?_
         rotate_left
         ·intro w'
          go_simp
          with_reducible rfl
         rotate_left
         ·simp only [Act.put, List.setIfInBounds_toArray, List.set_cons_zero, List.set_cons_succ, i64_w, i32_w]
          rfl
         refine take_ (i := 9) (N := some 43) (v := ?_) (a' := ?_) #[true, true, true, true, true, true, true, true, true, true, false, false] rfl rfl (take_ofW HT_.out HW_.out (by kernel_rfl)) (fun _ _ _ h => h) (Or.inl ⟨by rfl, ?_⟩) hHeld ?_ ?_
         rotate_left
         ·rintro w' ⟨s0, s1, s2, s3, s4, s5, s6, s7, s8, s9, s10, s11⟩
          go_simp
          with_reducible rfl
         rotate_left
         ·simp only [Act.put, List.setIfInBounds_toArray, List.set_cons_zero, List.set_cons_succ, i64_w, i32_w]
          rfl
         refine one_ (i := 10) (N := some 44) #[true, true, true, true, true, true, true, true, true, true, true, false] rfl rfl (one_of HT_.out (by kernel_rfl)) (by decide) (fun K hK => ?_)
         refine goes_ Try.func49 (by kernel_rfl) rfl #[.agg #[.int .i64 ((rd_T32 l0_2 x5_2).f0), .int .i64 ((rd_T32 l0_2 x5_2).f1), .slice A690_2 ((rd_T32 l0_2 x5_2).f2).length c690_2], .agg #[.int .i64 ((rd_T32 l1_2 x5_2).f0), .int .i64 ((rd_T32 l1_2 x5_2).f1), .slice A691_2 ((rd_T32 l1_2 x5_2).f2).length c691_2]] (by rfl) rfl rfl ab1_ ?_
         with_reducible refine (ih k2 (by have := HJ2.out; have := HK2.out; omega) ((rd_T32 l0_2 x5_2).f0) ((rd_T32 l0_2 x5_2).f1) _ _ ((rd_T32 l0_2 x5_2).f2) ((rd_T32 l1_2 x5_2).f0) ((rd_T32 l1_2 x5_2).f1) _ _ ((rd_T32 l1_2 x5_2).f2) true _ (aC_ (Kd.C_below HR690_2.out HB.out)) HC690_2.out (aC_ (Kd.C_below HR691_2.out HB.out)) HC691_2.out A21.out).mono ?_
         rintro e w26 ⟨rfl, hb⟩
         refine ⟨_, rfl, ?_⟩
         replace BK688 := am (bbl_ BK688.out hb)
         replace BK689 := am (bbl_ BK689.out hb)
         replace HB := am (below_step ab35_ hb)
         (try clear hb)
         (try clear hb2)
         (try clear hk)
         (try clear hi)
         refine hK.out _ _ ⟨(blk_cell BK688.out 0).trans rfl, (blk_cell BK688.out 1).trans rfl, (blk_cell BK688.out 2).trans rfl, (blk_cell BK689.out 0).trans rfl, (blk_cell BK689.out 1).trans rfl, (blk_cell BK689.out 2).trans rfl, ((HB.out.cell (World.block_lt_of_cell? w _ hw690_0)).trans hw690_0), ((HB.out.cell (World.block_lt_of_cell? w _ hw690_1)).trans hw690_1), ((HB.out.cell (World.block_lt_of_cell? w _ hw690_2)).trans hw690_2), ((HB.out.cell (World.block_lt_of_cell? w _ hw691_0)).trans hw691_0), ((HB.out.cell (World.block_lt_of_cell? w _ hw691_1)).trans hw691_1), ((HB.out.cell (World.block_lt_of_cell? w _ hw691_2)).trans hw691_2)⟩ (fun hHeld => ?_)
         clear hK K
         refine norm_ (a' := ?_) ?_ ?_
         rotate_left
         ·show Act.put _ (some 44) _ = _
          simp only [Act.put, List.setIfInBounds_toArray, List.set_cons_zero, List.set_cons_succ, i64_w, i32_w]
          rfl
         refine pure_ (i := 11) (N := some 45) (v := ?_) (a' := ?_) #[true, true, true, true, true, true, true, true, true, true, true, true] rfl rfl (any_of HT_.out (by kernel_rfl)) (fun _ _ _ h => h) (Or.inl ⟨by rfl, ?_⟩) ?_ ?_
         rotate_left
         ·intro w'
          go_simp
          with_reducible rfl
         rotate_left
         ·simp only [Act.put, List.setIfInBounds_toArray, List.set_cons_zero, List.set_cons_succ, i64_w, i32_w]
          rfl
         refine done_ (done_of HT_.out (by kernel_rfl)) ?_
         try go_wp2
         go_roundg k2
         case measure => have := HJ2.out; have := HK2.out; omega
         case rel => exact ⟨(wrap64 (x5_2 + 1)), sd_, H', ⟨by have := HJ2.out; have := HK2.out; omega⟩, ⟨by (with_reducible repeat (first | refine blk_drewN ?_ _ | refine blk_drew ?_ | refine blk_alloc ?_ _)); exact BK688.out⟩, ⟨by (with_reducible repeat (first | refine blk_drewN ?_ _ | refine blk_drew ?_ | refine blk_alloc ?_ _)); exact BK689.out⟩, ⟨ab35_⟩⟩
        replace c22 := Bool.eq_false_iff.mpr c22
        subst c22
        rw [if_neg (show ¬ (false = true) by decide)] at H
        obtain rfl := Option.some.inj H
        have hnb27 := NB688_689.out
        have hnc27 := NB689_688.out
        obtain ⟨hcz28_0, hcz28_1, hcz28_2, hfz28_0, hfz28_1, hfz28_2⟩ := bcf3_ BK688.out
        try go_wp2
        replace BK688 := am (blk_drew BK688.out)
        replace BK689 := am (blk_drew BK689.out)
        replace HB := am (below_drew1 HB.out)
        have p690 : 0 ≤ (x5_2 : Int) := of_decide_eq_true asm_
        have q690 : x5_2 < (l0_2.length : Int) := of_decide_eq_true asm_
        obtain ⟨ad690, A690_2, c690_2, e690, hx690_0, hx690_1, hx690_2, hl690_2, hi690_2⟩ := at_T32 HR0_2.out x5_2 p690 q690
        have hw690_2 := hx690_2
        have hw690_1 := hx690_1
        have hw690_0 := hx690_0
        cases e690
        replace hx690_0 := (HB.out.cell (World.block_lt_of_cell? w _ hx690_0)).trans hx690_0
        replace hx690_1 := (HB.out.cell (World.block_lt_of_cell? w _ hx690_1)).trans hx690_1
        replace hx690_2 := (HB.out.cell (World.block_lt_of_cell? w _ hx690_2)).trans hx690_2
        have HR690_2 := am hi690_2
        have HC690_2 := am hl690_2
        clear hi690_2 hl690_2
        replace p690 := eq_true p690
        replace q690 := eq_true q690
        have p691 : 0 ≤ (x5_2 : Int) := of_decide_eq_true asm_
        have q691 : x5_2 < (l1_2.length : Int) := of_decide_eq_true asm_
        obtain ⟨ad691, A691_2, c691_2, e691, hx691_0, hx691_1, hx691_2, hl691_2, hi691_2⟩ := at_T32 HR1_2.out x5_2 p691 q691
        have hw691_2 := hx691_2
        have hw691_1 := hx691_1
        have hw691_0 := hx691_0
        cases e691
        replace hx691_0 := (HB.out.cell (World.block_lt_of_cell? w _ hx691_0)).trans hx691_0
        replace hx691_1 := (HB.out.cell (World.block_lt_of_cell? w _ hx691_1)).trans hx691_1
        replace hx691_2 := (HB.out.cell (World.block_lt_of_cell? w _ hx691_2)).trans hx691_2
        have HR691_2 := am hi691_2
        have HC691_2 := am hl691_2
        clear hi691_2 hl691_2
        replace p691 := eq_true p691
        replace q691 := eq_true q691
        refine start_ (n := 12) (S := fun w' => w'.cell? ⟨gb688, 0, none⟩ = some (.int .i64 a0_0) ∧ w'.cell? ⟨gb688, 1, none⟩ = some (.int .i64 a0_1) ∧ w'.cell? ⟨gb688, 2, none⟩ = some (.slice (some ad690) l0_2.length c0_2) ∧ w'.cell? ⟨gb689, 0, none⟩ = some (.int .i64 a1_0) ∧ w'.cell? ⟨gb689, 1, none⟩ = some (.int .i64 a1_1) ∧ w'.cell? ⟨gb689, 2, none⟩ = some (.slice (some ad691) l1_2.length c1_2) ∧ w'.cell? (ad690.add ((x5_2).toNat * 3)) = some (.int .i64 ((rd_T32 l0_2 x5_2).f0)) ∧ w'.cell? ⟨(ad690.add ((x5_2).toNat * 3)).block, (ad690.add ((x5_2).toNat * 3)).off + 1, none⟩ = some (.int .i64 ((rd_T32 l0_2 x5_2).f1)) ∧ w'.cell? ⟨(ad690.add ((x5_2).toNat * 3)).block, (ad690.add ((x5_2).toNat * 3)).off + 2, none⟩ = some (.slice A690_2 ((rd_T32 l0_2 x5_2).f2).length c690_2) ∧ w'.cell? (ad691.add ((x5_2).toNat * 3)) = some (.int .i64 ((rd_T32 l1_2 x5_2).f0)) ∧ w'.cell? ⟨(ad691.add ((x5_2).toNat * 3)).block, (ad691.add ((x5_2).toNat * 3)).off + 1, none⟩ = some (.int .i64 ((rd_T32 l1_2 x5_2).f1)) ∧ w'.cell? ⟨(ad691.add ((x5_2).toNat * 3)).block, (ad691.add ((x5_2).toNat * 3)).off + 2, none⟩ = some (.slice A691_2 ((rd_T32 l1_2 x5_2).f2).length c691_2)) (ds := []) #[false, false, false, false, false, false, false, false, false, false, false, false] (by kernel_rfl) rfl rfl ⟨(blk_cell BK688.out 0).trans rfl, (blk_cell BK688.out 1).trans rfl, (blk_cell BK688.out 2).trans rfl, (blk_cell BK689.out 0).trans rfl, (blk_cell BK689.out 1).trans rfl, (blk_cell BK689.out 2).trans rfl, ((HB.out.cell (World.block_lt_of_cell? w _ hw690_0)).trans hw690_0), ((HB.out.cell (World.block_lt_of_cell? w _ hw690_1)).trans hw690_1), ((HB.out.cell (World.block_lt_of_cell? w _ hw690_2)).trans hw690_2), ((HB.out.cell (World.block_lt_of_cell? w _ hw691_0)).trans hw691_0), ((HB.out.cell (World.block_lt_of_cell? w _ hw691_1)).trans hw691_1), ((HB.out.cell (World.block_lt_of_cell? w _ hw691_2)).trans hw691_2)⟩ (fun hHeld => ?_); refine with_tabW laws_sameExpr.tab6 laws_sameExpr.bits6 (fun HT_ HW_ => ?_)
        generalize wr.drew = w29 at BK688 BK689 HB HR690_2 HR691_2 hx690_0 hx690_1 hx690_2 hx691_0 hx691_1 hx691_2 hHeld ⊢
        refine pure_ (i := 0) (N := some 34) (v := ?_) (a' := ?_) #[true, false, false, false, false, false, false, false, false, false, false, false] rfl rfl (any_of HT_.out (by kernel_rfl)) (fun _ _ _ h => h) (Or.inl ⟨by rfl, ?_⟩) ?_ ?_
        rotate_left
        ·intro w'
         go_simp
         with_reducible rfl
        rotate_left
        ·simp only [Act.put, List.setIfInBounds_toArray, List.set_cons_zero, List.set_cons_succ, i64_w, i32_w]
         rfl
        refine pure_ (i := 2) (N := some 36) (v := ?_) (a' := ?_) #[true, false, true, false, false, false, false, false, false, false, false, false] rfl rfl (any_of HT_.out (by kernel_rfl)) (fun _ _ _ h => h) (Or.inl ⟨by rfl, ?_⟩) ?_ ?_
        rotate_left
        ·intro w'
         go_simp
         with_reducible rfl
        rotate_left
        ·simp only [Act.put, List.setIfInBounds_toArray, List.set_cons_zero, List.set_cons_succ, i64_w, i32_w]
         rfl
        refine pure_ (i := 5) (N := some 39) (v := ?_) (a' := ?_) #[true, false, true, false, false, true, false, false, false, false, false, false] rfl rfl (any_of HT_.out (by kernel_rfl)) (fun _ _ _ h => h) (Or.inl ⟨by rfl, ?_⟩) ?_ ?_
        rotate_left
        ·intro w'
         go_simp
         with_reducible rfl
        rotate_left
        ·simp only [Act.put, List.setIfInBounds_toArray, List.set_cons_zero, List.set_cons_succ, i64_w, i32_w]
         rfl
        refine pure_ (i := 7) (N := some 41) (v := ?_) (a' := ?_) #[true, false, true, false, false, true, false, true, false, false, false, false] rfl rfl (any_of HT_.out (by kernel_rfl)) (fun _ _ _ h => h) (Or.inl ⟨by rfl, ?_⟩) ?_ ?_
        rotate_left
        ·intro w'
         go_simp
         with_reducible rfl
        rotate_left
        ·simp only [Act.put, List.setIfInBounds_toArray, List.set_cons_zero, List.set_cons_succ, i64_w, i32_w]
         rfl
        refine take_ (i := 1) (N := some 35) (v := ?_) (a' := ?_) #[true, true, true, false, false, true, false, true, false, false, false, false] rfl rfl (take_ofW HT_.out HW_.out (by kernel_rfl)) (fun _ _ _ h => h) (Or.inl ⟨by rfl, ?_⟩) hHeld ?_ ?_
        rotate_left
        ·rintro w' ⟨s0, s1, s2, s3, s4, s5, s6, s7, s8, s9, s10, s11⟩
         go_simp
         with_reducible rfl
        rotate_left
        ·simp only [Act.put, List.setIfInBounds_toArray, List.set_cons_zero, List.set_cons_succ, i64_w, i32_w]
         rfl
        refine pure_ (i := 3) (N := some 37) (v := ?_) (a' := ?_) #[true, true, true, true, false, true, false, true, false, false, false, false] rfl rfl (any_of HT_.out (by kernel_rfl)) (fun _ _ _ h => h) (Or.inl ⟨by rfl, ?_⟩) ?_ ?_
        rotate_left
        ·intro w'
         go_simp
         with_reducible rfl
        rotate_left
        ·simp only [Act.put, List.setIfInBounds_toArray, List.set_cons_zero, List.set_cons_succ, i64_w, i32_w]
         rfl
        refine take_ (i := 4) (N := some 38) (v := ?_) (a' := ?_) #[true, true, true, true, true, true, false, true, false, false, false, false] rfl rfl (take_ofW HT_.out HW_.out (by kernel_rfl)) (fun _ _ _ h => h) (Or.inl ⟨by rfl, ?_⟩) hHeld ?_ ?_
        rotate_left
        ·rintro w' ⟨s0, s1, s2, s3, s4, s5, s6, s7, s8, s9, s10, s11⟩
         go_simp
         with_reducible rfl
        rotate_left
        ·simp only [Act.put, List.setIfInBounds_toArray, List.set_cons_zero, List.set_cons_succ, i64_w, i32_w]
         rfl
        refine take_ (i := 6) (N := some 40) (v := ?_) (a' := ?_) #[true, true, true, true, true, true, true, true, false, false, false, false] rfl rfl (take_ofW HT_.out HW_.out (by kernel_rfl)) (fun _ _ _ h => h) (Or.inl ⟨by rfl, ?_⟩) hHeld ?_ ?_
        rotate_left
        ·rintro w' ⟨s0, s1, s2, s3, s4, s5, s6, s7, s8, s9, s10, s11⟩
         go_simp
         with_reducible rfl
        rotate_left
        ·simp only [Act.put, List.setIfInBounds_toArray, List.set_cons_zero, List.set_cons_succ, i64_w, i32_w]
         rfl
        refine pure_ (i := 8) (N := some 42) (v := ?_) (a' := ?_) #[true, true, true, true, true, true, true, true, true, false, false, false] rfl rfl (any_of HT_.out (by kernel_rfl)) (fun _ _ _ h => h) (Or.inl ⟨by rfl, ?_⟩) ?_ ?_
        rotate_left
        ·intro w'
         go_simp
         with_reducible rfl
        rotate_left
        ·simp only [Act.put, List.setIfInBounds_toArray, List.set_cons_zero, List.set_cons_succ, i64_w, i32_w]
         rfl
        refine take_ (i := 9) (N := some 43) (v := ?_) (a' := ?_) #[true, true, true, true, true, true, true, true, true, true, false, false] rfl rfl (take_ofW HT_.out HW_.out (by kernel_rfl)) (fun _ _ _ h => h) (Or.inl ⟨by rfl, ?_⟩) hHeld ?_ ?_
        rotate_left
        ·rintro w' ⟨s0, s1, s2, s3, s4, s5, s6, s7, s8, s9, s10, s11⟩
         go_simp
         with_reducible rfl
        rotate_left
        ·simp only [Act.put, List.setIfInBounds_toArray, List.set_cons_zero, List.set_cons_succ, i64_w, i32_w]
         rfl
        refine one_ (i := 10) (N := some 44) #[true, true, true, true, true, true, true, true, true, true, true, false] rfl rfl (one_of HT_.out (by kernel_rfl)) (by decide) (fun K hK => ?_)
        refine goes_ Try.func49 (by kernel_rfl) rfl #[.agg #[.int .i64 ((rd_T32 l0_2 x5_2).f0), .int .i64 ((rd_T32 l0_2 x5_2).f1), .slice A690_2 ((rd_T32 l0_2 x5_2).f2).length c690_2], .agg #[.int .i64 ((rd_T32 l1_2 x5_2).f0), .int .i64 ((rd_T32 l1_2 x5_2).f1), .slice A691_2 ((rd_T32 l1_2 x5_2).f2).length c691_2]] (by rfl) rfl rfl ab1_ ?_
        with_reducible refine (ih k2 (by have := HJ2.out; have := HK2.out; omega) ((rd_T32 l0_2 x5_2).f0) ((rd_T32 l0_2 x5_2).f1) _ _ ((rd_T32 l0_2 x5_2).f2) ((rd_T32 l1_2 x5_2).f0) ((rd_T32 l1_2 x5_2).f1) _ _ ((rd_T32 l1_2 x5_2).f2) false _ (aC_ (Kd.C_below HR690_2.out HB.out)) HC690_2.out (aC_ (Kd.C_below HR691_2.out HB.out)) HC691_2.out A21.out).mono ?_
        rintro e w30 ⟨rfl, hb⟩
        refine ⟨_, rfl, ?_⟩
        replace BK688 := am (bbl_ BK688.out hb)
        replace BK689 := am (bbl_ BK689.out hb)
        replace HB := am (below_step ab35_ hb)
        (try clear hb)
        (try clear hb2)
        (try clear hk)
        (try clear hi)
        refine hK.out _ _ ⟨(blk_cell BK688.out 0).trans rfl, (blk_cell BK688.out 1).trans rfl, (blk_cell BK688.out 2).trans rfl, (blk_cell BK689.out 0).trans rfl, (blk_cell BK689.out 1).trans rfl, (blk_cell BK689.out 2).trans rfl, ((HB.out.cell (World.block_lt_of_cell? w _ hw690_0)).trans hw690_0), ((HB.out.cell (World.block_lt_of_cell? w _ hw690_1)).trans hw690_1), ((HB.out.cell (World.block_lt_of_cell? w _ hw690_2)).trans hw690_2), ((HB.out.cell (World.block_lt_of_cell? w _ hw691_0)).trans hw691_0), ((HB.out.cell (World.block_lt_of_cell? w _ hw691_1)).trans hw691_1), ((HB.out.cell (World.block_lt_of_cell? w _ hw691_2)).trans hw691_2)⟩ (fun hHeld => ?_)
        clear hK K
        refine norm_ (a' := ?_) ?_ ?_
        rotate_left
        ·show Act.put _ (some 44) _ = _
         simp only [Act.put, List.setIfInBounds_toArray, List.set_cons_zero, List.set_cons_succ, i64_w, i32_w]
         rfl
        refine pure_ (i := 11) (N := some 45) (v := ?_) (a' := ?_) #[true, true, true, true, true, true, true, true, true, true, true, true] rfl rfl (any_of HT_.out (by kernel_rfl)) (fun _ _ _ h => h) (Or.inl ⟨by rfl, ?_⟩) ?_ ?_
        rotate_left
        ·intro w'
         go_simp
         with_reducible rfl
        rotate_left
        ·simp only [Act.put, List.setIfInBounds_toArray, List.set_cons_zero, List.set_cons_succ, i64_w, i32_w]
         rfl
        refine done_ (done_of HT_.out (by kernel_rfl)) ?_
        try go_wp2
        go_ret
        exact ⟨rr_, ab35_⟩
       rw [if_neg c20] at H
       exact absurd H (by simp)
      rw [if_neg c19] at H
      exact absurd H (by simp)
     rw [if_neg c18] at H
     have c18b0 : decide (x5_2 < (l0_2.length : Int)) = false := decide_eq_false c18
     clear c18
     obtain rfl := Option.some.inj H
     have hnb31 := NB688_689.out
     have hnc31 := NB689_688.out
     obtain ⟨hcz32_0, hcz32_1, hcz32_2, hfz32_0, hfz32_1, hfz32_2⟩ := bcf3_ BK688.out
     go_wp2
     go_ret
     exact ⟨rr_, ab35_⟩
theorem laws_sameStmts.mono_l : ∀ k, (∀ y0 y1, LeO (laws_sameStmts.f k y0 y1) (laws_sameStmts.f (k + 1) y0 y1)) ∧ (∀ y0 y1 y2, LeO (laws_sameStmts.l0 k y0 y1 y2) (laws_sameStmts.l0 (k + 1) y0 y1 y2)) ∧ (∀ y0 y1 y2 y3 y4 y5 y6 y7 y8 y9 y10 y11 y12 y13 y14 y15 y16 y17 y18 y19, LeO (laws_sameStmts.j1 k y0 y1 y2 y3 y4 y5 y6 y7 y8 y9 y10 y11 y12 y13 y14 y15 y16 y17 y18 y19) (laws_sameStmts.j1 (k + 1) y0 y1 y2 y3 y4 y5 y6 y7 y8 y9 y10 y11 y12 y13 y14 y15 y16 y17 y18 y19))
 | 0 => ⟨fun _ _ r h => by simp [laws_sameStmts.f] at h, fun _ _ _ r h => by simp [laws_sameStmts.l0] at h, fun _ _ _ _ _ _ _ _ _ _ _ _ _ _ _ _ _ _ _ _ r h => by simp [laws_sameStmts.j1] at h⟩
 | k + 1 => by
  obtain ⟨ih0, ih1, ih2⟩ := laws_sameStmts.mono_l k
  refine ⟨?_, ?_, ?_⟩
  ·intro y0 y1
   unfold laws_sameStmts.f
   repeat' first
   | (with_reducible exact ih0 _ _)
   | (with_reducible exact ih1 _ _ _)
   | (with_reducible exact ih2 _ _ _ _ _ _ _ _ _ _ _ _ _ _ _ _ _ _ _ _)
   | (with_reducible exact laws_sameExpr.mono _ _ _ _ _ _ _)
   | (with_reducible exact LeO.refl _)
   | (with_reducible exact LeO.none _)
   | (with_reducible refine LeO.ite ?_ ?_)
   | (with_reducible refine LeO.bind ?_ (fun _ => ?_))
  ·intro y0 y1 y2
   unfold laws_sameStmts.l0
   repeat' first
   | (with_reducible exact ih0 _ _)
   | (with_reducible exact ih1 _ _ _)
   | (with_reducible exact ih2 _ _ _ _ _ _ _ _ _ _ _ _ _ _ _ _ _ _ _ _)
   | (with_reducible exact laws_sameExpr.mono _ _ _ _ _ _ _)
   | (with_reducible exact LeO.refl _)
   | (with_reducible exact LeO.none _)
   | (with_reducible refine LeO.ite ?_ ?_)
   | (with_reducible refine LeO.bind ?_ (fun _ => ?_))
  ·intro y0 y1 y2 y3 y4 y5 y6 y7 y8 y9 y10 y11 y12 y13 y14 y15 y16 y17 y18 y19
   unfold laws_sameStmts.j1
   repeat' first
   | (with_reducible exact ih0 _ _)
   | (with_reducible exact ih1 _ _ _)
   | (with_reducible exact ih2 _ _ _ _ _ _ _ _ _ _ _ _ _ _ _ _ _ _ _ _)
   | (with_reducible exact laws_sameExpr.mono _ _ _ _ _ _ _)
   | (with_reducible exact LeO.refl _)
   | (with_reducible exact LeO.none _)
   | (with_reducible refine LeO.ite ?_ ?_)
   | (with_reducible refine LeO.bind ?_ (fun _ => ?_))
theorem laws_sameStmts.mono : ∀ a0 a1 k, LeO (laws_sameStmts.f k a0 a1) (laws_sameStmts.f (k + 1) a0 a1) := by
 intro a0 a1 k
 obtain ⟨ih0, ih1, ih2⟩ := laws_sameStmts.mono_l k
 exact ih0 a0 a1
theorem laws_sameStmts.calls (k : Nat) : ∀ (A0 : Option Addr) (c0 : Nat) (l0 : List (S35)) (A1 : Option Addr) (c1 : Nat) (l1 : List (S35)) (r : Bool) (w : World) (hr0 : Kd.C k35 w A0 l0.length l0) (hc0 : l0.length ≤ c0) (hr1 : Kd.C k35 w A1 l1.length l1) (hc1 : l1.length ≤ c1) (h : laws_sameStmts.f k l0 l1 = some r),
  Calls Try.prog 15 #[.slice A0 l0.length c0, .slice A1 l1.length c1] w fun e w' => e = .returned (.bool r) ∧ Below w.heap.size w w' := by
 induction k using Nat.strongRecOn with
 | _ k ih =>
 intro A0 c0 l0 A1 c1 l1 r w hr0 hc0 hr1 hc1 h
 cases k with
 | zero => exact absurd h (by simp [laws_sameStmts.f])
 | succ k =>
 simp only [laws_sameStmts.f] at h
 have hu35 := Try.underlying35
 have hu32 := Try.underlying32
 have HR0 := am hr0
 have HC0 := am hc0
 clear hr0 hc0
 have HR1 := am hr1
 have HC1 := am hc1
 clear hr1 hc1
 have HB := am (Below.refl w.heap.size w)
 have H : (if (l0.length : Int) = (l1.length : Int) then (laws_sameStmts.l0 k l0 l1 0) else (some false)) = some r := h
 clear h
 by_cases c3 : (l0.length : Int) = (l1.length : Int)
 ·rw [if_pos c3] at H
  have c3b0 : ((l0.length : Int) == (l1.length : Int)) = true := beq_iff_eq.mpr c3
  have c3b1 : ((l0.length : Int) != (l1.length : Int)) = false := bne_eq_false_iff_eq.mpr c3
  have c3b2 : (l0.length == l1.length) = true := by first | simpa using c3 | (simp at c3 ⊢; omega)
  clear c3
  have H' := am H
  clear H
  go_enter Try.func15, Try.ntmps15
  go_wp2
  go_loopg [5] k (fun kq v5 w' => ∃ (x5_1 : Int), v5 = .int .i64 x5_1 ∧ Aside0 (laws_sameStmts.l0 kq l0 l1 x5_1 = some r) ∧ Aside0 (kq ≤ k) ∧ Aside0 (Below w.heap.size w w'))
  case atStart => exact ⟨(0), sd_, H', ⟨Nat.le_refl _⟩, ⟨ab2_⟩⟩
  case round =>
   clear H'
   try clear c1
   try clear c3
   try clear c3b0
   try clear c3b1
   try clear c3b2
   obtain ⟨x5_1, rfl, HA, HK1, HB⟩ := hrel
   cases gk with
   | zero => exact absurd HA.out (by simp [laws_sameStmts.l0])
   | succ k1 =>
    have H := HA.out
    clear HA
    simp only [laws_sameStmts.l0] at H
    by_cases c4 : x5_1 < (l0.length : Int)
    ·rw [if_pos c4] at H
     have c4b0 : decide (x5_1 < (l0.length : Int)) = true := decide_eq_true c4
     clear c4
     by_cases c5 : 0 ≤ x5_1
     ·rw [if_pos c5] at H
      have c5b0 : decide (0 ≤ x5_1) = true := decide_eq_true c5
      clear c5
      by_cases c6 : x5_1 < (l1.length : Int)
      ·rw [if_pos c6] at H
       have c6b0 : decide (x5_1 < (l1.length : Int)) = true := decide_eq_true c6
       clear c6
       have HC7 := am H
       clear H
       have p693 : 0 ≤ (x5_1 : Int) := of_decide_eq_true asm_
       have q693 : x5_1 < (l0.length : Int) := of_decide_eq_true asm_
       obtain ⟨ad693, A693_5, c693_5, A693_6, c693_6, A693_7, c693_7, e693, hx693_0, hx693_1, hx693_2, hx693_3, hx693_4, hx693_5, hx693_6, hx693_7, hl693_5, hi693_5, hl693_6, hi693_6, hl693_7, hi693_7⟩ := at_T35 HR0.out x5_1 p693 q693
       cases e693
       replace hx693_0 := (HB.out.cell (World.block_lt_of_cell? w _ hx693_0)).trans hx693_0
       replace hx693_1 := (HB.out.cell (World.block_lt_of_cell? w _ hx693_1)).trans hx693_1
       replace hx693_2 := (HB.out.cell (World.block_lt_of_cell? w _ hx693_2)).trans hx693_2
       replace hx693_3 := (HB.out.cell (World.block_lt_of_cell? w _ hx693_3)).trans hx693_3
       replace hx693_4 := (HB.out.cell (World.block_lt_of_cell? w _ hx693_4)).trans hx693_4
       replace hx693_5 := (HB.out.cell (World.block_lt_of_cell? w _ hx693_5)).trans hx693_5
       replace hx693_6 := (HB.out.cell (World.block_lt_of_cell? w _ hx693_6)).trans hx693_6
       replace hx693_7 := (HB.out.cell (World.block_lt_of_cell? w _ hx693_7)).trans hx693_7
       have HR693_5 := am hi693_5
       have HC693_5 := am hl693_5
       clear hi693_5 hl693_5
       have HR693_6 := am hi693_6
       have HC693_6 := am hl693_6
       clear hi693_6 hl693_6
       have HR693_7 := am hi693_7
       have HC693_7 := am hl693_7
       clear hi693_7 hl693_7
       replace p693 := eq_true p693
       replace q693 := eq_true q693
       go_upto_region 8 with (first | ((with_reducible refine gate_dst (N := 6) rfl ?_); refine box_event rfl (N := 6) rfl (cs := #[.int .i64 0, .int .i64 0, .int .i64 0, .int .i64 0, .int .i64 0, .slice none 0 0, .slice none 0 0, .slice none 0 0]) (t := 35) rn_ ?_; intro gb694 hg w8 hbox hb; have BK694 := am (hbox); have GW694 := am ((by rw [hg]; exact (below_size ab2_) : w.heap.size ≤ gb694)); have GE694 := am ((by rw [hg]; exact (below_size ab2_) : w.heap.size ≤ gb694)); replace HB := am (below_step ab2_ hb); clear hb hbox hg; obtain ⟨hcz9_0, hcz9_1, hcz9_2, hcz9_3, hcz9_4, hcz9_5, hcz9_6, hcz9_7, hfz9_0, hfz9_1, hfz9_2, hfz9_3, hfz9_4, hfz9_5, hfz9_6, hfz9_7⟩ := bcf8_ BK694.out; have p695 : 0 ≤ (x5_1 : Int) := of_decide_eq_true asm_; have q695 : x5_1 < (l1.length : Int) := of_decide_eq_true asm_; obtain ⟨ad695, A695_5, c695_5, A695_6, c695_6, A695_7, c695_7, e695, hx695_0, hx695_1, hx695_2, hx695_3, hx695_4, hx695_5, hx695_6, hx695_7, hl695_5, hi695_5, hl695_6, hi695_6, hl695_7, hi695_7⟩ := at_T35 HR1.out x5_1 p695 q695; cases e695; have hn695_0 : ad695.block ≠ gb694 := Nat.ne_of_lt (Nat.lt_of_lt_of_le (by have := World.block_lt_of_cell? _ _ hx695_0; first | rwa [add_block] at this | exact this) GW694.out); have hn695_1 : ad695.block ≠ gb694 := Nat.ne_of_lt (Nat.lt_of_lt_of_le (by have := World.block_lt_of_cell? _ _ hx695_0; first | rwa [add_block] at this | exact this) GW694.out); have hn695_2 : ad695.block ≠ gb694 := Nat.ne_of_lt (Nat.lt_of_lt_of_le (by have := World.block_lt_of_cell? _ _ hx695_0; first | rwa [add_block] at this | exact this) GW694.out); have hn695_3 : ad695.block ≠ gb694 := Nat.ne_of_lt (Nat.lt_of_lt_of_le (by have := World.block_lt_of_cell? _ _ hx695_0; first | rwa [add_block] at this | exact this) GW694.out); have hn695_4 : ad695.block ≠ gb694 := Nat.ne_of_lt (Nat.lt_of_lt_of_le (by have := World.block_lt_of_cell? _ _ hx695_0; first | rwa [add_block] at this | exact this) GW694.out); have hn695_5 : ad695.block ≠ gb694 := Nat.ne_of_lt (Nat.lt_of_lt_of_le (by have := World.block_lt_of_cell? _ _ hx695_0; first | rwa [add_block] at this | exact this) GW694.out); have hn695_6 : ad695.block ≠ gb694 := Nat.ne_of_lt (Nat.lt_of_lt_of_le (by have := World.block_lt_of_cell? _ _ hx695_0; first | rwa [add_block] at this | exact this) GW694.out); have hn695_7 : ad695.block ≠ gb694 := Nat.ne_of_lt (Nat.lt_of_lt_of_le (by have := World.block_lt_of_cell? _ _ hx695_0; first | rwa [add_block] at this | exact this) GW694.out); replace hx695_0 := (HB.out.cell (World.block_lt_of_cell? w _ hx695_0)).trans hx695_0; replace hx695_1 := (HB.out.cell (World.block_lt_of_cell? w _ hx695_1)).trans hx695_1; replace hx695_2 := (HB.out.cell (World.block_lt_of_cell? w _ hx695_2)).trans hx695_2; replace hx695_3 := (HB.out.cell (World.block_lt_of_cell? w _ hx695_3)).trans hx695_3; replace hx695_4 := (HB.out.cell (World.block_lt_of_cell? w _ hx695_4)).trans hx695_4; replace hx695_5 := (HB.out.cell (World.block_lt_of_cell? w _ hx695_5)).trans hx695_5; replace hx695_6 := (HB.out.cell (World.block_lt_of_cell? w _ hx695_6)).trans hx695_6; replace hx695_7 := (HB.out.cell (World.block_lt_of_cell? w _ hx695_7)).trans hx695_7; have HR695_5 := am hi695_5; have HC695_5 := am hl695_5; clear hi695_5 hl695_5; have HR695_6 := am hi695_6; have HC695_6 := am hl695_6; clear hi695_6 hl695_6; have HR695_7 := am hi695_7; have HC695_7 := am hl695_7; clear hi695_7 hl695_7; have FR_ := fun {W_ : World} {a_ : Addr} {x_ : Value} (b_ : a_.block ≠ gb694) (h_ : W_.cell? a_ = some x_) => ((cell_far (p := ⟨gb694, 7, none⟩) b_ (.slice A693_7 ((rd_T35 l0 x5_1).f5).length c693_7)).trans ((cell_far (p := ⟨gb694, 6, none⟩) b_ (.slice A693_6 ((rd_T35 l0 x5_1).f4).length c693_6)).trans ((cell_far (p := ⟨gb694, 5, none⟩) b_ (.slice A693_5 ((rd_T35 l0 x5_1).f3.f2).length c693_5)).trans ((cell_far (p := ⟨gb694, 4, none⟩) b_ (.int .i64 ((rd_T35 l0 x5_1).f3.f1))).trans ((cell_far (p := ⟨gb694, 3, none⟩) b_ (.int .i64 ((rd_T35 l0 x5_1).f3.f0))).trans ((cell_far (p := ⟨gb694, 2, none⟩) b_ (.int .i64 ((rd_T35 l0 x5_1).f2))).trans ((cell_far (p := ⟨gb694, 1, none⟩) b_ (.int .i64 ((rd_T35 l0 x5_1).f1))).trans ((cell_far (p := ⟨gb694, 0, none⟩) b_ (.int .i64 ((rd_T35 l0 x5_1).f0))).trans h_)))))))); replace hx695_0 := FR_ (nb_ hn695_0) hx695_0; replace hx695_1 := FR_ (nb_ hn695_0) hx695_1; replace hx695_2 := FR_ (nb_ hn695_0) hx695_2; replace hx695_3 := FR_ (nb_ hn695_0) hx695_3; replace hx695_4 := FR_ (nb_ hn695_0) hx695_4; replace hx695_5 := FR_ (nb_ hn695_0) hx695_5; replace hx695_6 := FR_ (nb_ hn695_0) hx695_6; replace hx695_7 := FR_ (nb_ hn695_0) hx695_7; clear FR_; clear hn695_0 hn695_1 hn695_2 hn695_3 hn695_4 hn695_5 hn695_6 hn695_7; replace p695 := eq_true p695; replace q695 := eq_true q695) | ((with_reducible refine gate_dst (N := 7) rfl ?_); refine box_event rfl (N := 7) rfl (cs := #[.int .i64 0, .int .i64 0, .int .i64 0, .int .i64 0, .int .i64 0, .slice none 0 0, .slice none 0 0, .slice none 0 0]) (t := 35) rn_ ?_; intro gb696 hg w10 hbox hb; have BK696 := am (hbox); have GW696 := am ((by rw [hg]; exact (below_size ab75_) : w.heap.size ≤ gb696)); have GE696 := am ((by rw [hg]; exact (below_size ab75_) : w.heap.size ≤ gb696)); replace HB := am (below_step ab75_ hb); have NB694_696 := am ((by rw [hg]; exact Nat.ne_of_lt (blk_lt (g := gb694) (o := .cells #[.int .i64 ((rd_T35 l0 x5_1).f0), .int .i64 ((rd_T35 l0 x5_1).f1), .int .i64 ((rd_T35 l0 x5_1).f2), .int .i64 ((rd_T35 l0 x5_1).f3.f0), .int .i64 ((rd_T35 l0 x5_1).f3.f1), .slice A693_5 ((rd_T35 l0 x5_1).f3.f2).length c693_5, .slice A693_6 ((rd_T35 l0 x5_1).f4).length c693_6, .slice A693_7 ((rd_T35 l0 x5_1).f5).length c693_7] 35 (0, 0)) (blk_put (blk_put (blk_put (blk_put (blk_put (blk_put (blk_put (blk_put BK694.out 0 _ rfl) 1 _ rfl) 2 _ rfl) 3 _ rfl) 4 _ rfl) 5 _ rfl) 6 _ rfl) 7 _ rfl)) : gb694 ≠ gb696)); have NB696_694 := am ((by rw [hg]; exact Nat.ne_of_gt (blk_lt (g := gb694) (o := .cells #[.int .i64 ((rd_T35 l0 x5_1).f0), .int .i64 ((rd_T35 l0 x5_1).f1), .int .i64 ((rd_T35 l0 x5_1).f2), .int .i64 ((rd_T35 l0 x5_1).f3.f0), .int .i64 ((rd_T35 l0 x5_1).f3.f1), .slice A693_5 ((rd_T35 l0 x5_1).f3.f2).length c693_5, .slice A693_6 ((rd_T35 l0 x5_1).f4).length c693_6, .slice A693_7 ((rd_T35 l0 x5_1).f5).length c693_7] 35 (0, 0)) (blk_put (blk_put (blk_put (blk_put (blk_put (blk_put (blk_put (blk_put BK694.out 0 _ rfl) 1 _ rfl) 2 _ rfl) 3 _ rfl) 4 _ rfl) 5 _ rfl) 6 _ rfl) 7 _ rfl)) : gb696 ≠ gb694)); replace BK694 := am (blk_below (g := gb694) (o := .cells #[.int .i64 ((rd_T35 l0 x5_1).f0), .int .i64 ((rd_T35 l0 x5_1).f1), .int .i64 ((rd_T35 l0 x5_1).f2), .int .i64 ((rd_T35 l0 x5_1).f3.f0), .int .i64 ((rd_T35 l0 x5_1).f3.f1), .slice A693_5 ((rd_T35 l0 x5_1).f3.f2).length c693_5, .slice A693_6 ((rd_T35 l0 x5_1).f4).length c693_6, .slice A693_7 ((rd_T35 l0 x5_1).f5).length c693_7] 35 (0, 0)) (blk_put (blk_put (blk_put (blk_put (blk_put (blk_put (blk_put (blk_put BK694.out 0 _ rfl) 1 _ rfl) 2 _ rfl) 3 _ rfl) 4 _ rfl) 5 _ rfl) 6 _ rfl) 7 _ rfl) hb); clear hb hbox hg; have hnb11 := NB696_694.out; have hnc11 := NB694_696.out; obtain ⟨hcz12_0, hcz12_1, hcz12_2, hcz12_3, hcz12_4, hcz12_5, hcz12_6, hcz12_7, hfz12_0, hfz12_1, hfz12_2, hfz12_3, hfz12_4, hfz12_5, hfz12_6, hfz12_7⟩ := bcf8_ BK696.out))
       (try simp only [Act.put, List.setIfInBounds_toArray, List.set_cons_zero, List.set_cons_succ])
       go_cut [53] (fun v53 wc => ∃ (kq : Nat) (x53_6 : Bool), v53 = .bool x53_6 ∧ Aside0 (laws_sameStmts.j1 kq l0 l1 x5_1 x53_6 ((rd_T35 l0 x5_1).f0) ((rd_T35 l0 x5_1).f1) ((rd_T35 l0 x5_1).f2) ((rd_T35 l0 x5_1).f3.f0) ((rd_T35 l0 x5_1).f3.f1) ((rd_T35 l0 x5_1).f3.f2) ((rd_T35 l0 x5_1).f4) ((rd_T35 l0 x5_1).f5) ((rd_T35 l1 x5_1).f0) ((rd_T35 l1 x5_1).f1) ((rd_T35 l1 x5_1).f2) ((rd_T35 l1 x5_1).f3.f0) ((rd_T35 l1 x5_1).f3.f1) ((rd_T35 l1 x5_1).f3.f2) ((rd_T35 l1 x5_1).f4) ((rd_T35 l1 x5_1).f5) = some r) ∧ Aside0 (kq ≤ k1) ∧ Aside0 (wc.heap[gb694]? = some (.cells #[.int .i64 ((rd_T35 l0 x5_1).f0), .int .i64 ((rd_T35 l0 x5_1).f1), .int .i64 ((rd_T35 l0 x5_1).f2), .int .i64 ((rd_T35 l0 x5_1).f3.f0), .int .i64 ((rd_T35 l0 x5_1).f3.f1), (.slice A693_5 ((rd_T35 l0 x5_1).f3.f2).length c693_5), (.slice A693_6 ((rd_T35 l0 x5_1).f4).length c693_6), (.slice A693_7 ((rd_T35 l0 x5_1).f5).length c693_7)] 35 (0, 0))) ∧ Aside0 (wc.heap[gb696]? = some (.cells #[.int .i64 ((rd_T35 l1 x5_1).f0), .int .i64 ((rd_T35 l1 x5_1).f1), .int .i64 ((rd_T35 l1 x5_1).f2), .int .i64 ((rd_T35 l1 x5_1).f3.f0), .int .i64 ((rd_T35 l1 x5_1).f3.f1), (.slice A695_5 ((rd_T35 l1 x5_1).f3.f2).length c695_5), (.slice A695_6 ((rd_T35 l1 x5_1).f4).length c695_6), (.slice A695_7 ((rd_T35 l1 x5_1).f5).length c695_7)] 35 (0, 0))) ∧ Aside0 (Below w.heap.size w wc))
       case first =>
        have H := HC7.out
        clear HC7
        by_cases c13 : ((rd_T35 l0 x5_1).f0) = ((rd_T35 l1 x5_1).f0)
        ·rw [if_pos c13] at H
         have c13b0 : (((rd_T35 l0 x5_1).f0) == ((rd_T35 l1 x5_1).f0)) = true := beq_iff_eq.mpr c13
         have c13b1 : (((rd_T35 l0 x5_1).f0) != ((rd_T35 l1 x5_1).f0)) = false := bne_eq_false_iff_eq.mpr c13
         clear c13
         (first | rw [c13b0] | (simp only [i64_w, i32_w]; rw [c13b0]) | skip)
         by_cases c14 : ((rd_T35 l0 x5_1).f1) = ((rd_T35 l1 x5_1).f1)
         ·rw [if_pos c14] at H
          have c14b0 : (((rd_T35 l0 x5_1).f1) == ((rd_T35 l1 x5_1).f1)) = true := beq_iff_eq.mpr c14
          have c14b1 : (((rd_T35 l0 x5_1).f1) != ((rd_T35 l1 x5_1).f1)) = false := bne_eq_false_iff_eq.mpr c14
          clear c14
          by_cases c15 : ((rd_T35 l0 x5_1).f2) = ((rd_T35 l1 x5_1).f2)
          ·rw [if_pos c15] at H
           have c15b0 : (((rd_T35 l0 x5_1).f2) == ((rd_T35 l1 x5_1).f2)) = true := beq_iff_eq.mpr c15
           have c15b1 : (((rd_T35 l0 x5_1).f2) != ((rd_T35 l1 x5_1).f2)) = false := bne_eq_false_iff_eq.mpr c15
           clear c15
           obtain ⟨t697, A160, H⟩ := bsm H
           (try dsimp only at H)
           have A16 := am A160
           clear A160
           have H' := am H
           clear H
           have hnb17 := NB694_696.out
           have hnc17 := NB696_694.out
           obtain ⟨hcz18_0, hcz18_1, hcz18_2, hcz18_3, hcz18_4, hcz18_5, hcz18_6, hcz18_7, hfz18_0, hfz18_1, hfz18_2, hfz18_3, hfz18_4, hfz18_5, hfz18_6, hfz18_7⟩ := bcf8_ BK694.out
           obtain ⟨hcz19_0, hcz19_1, hcz19_2, hcz19_3, hcz19_4, hcz19_5, hcz19_6, hcz19_7, hfz19_0, hfz19_1, hfz19_2, hfz19_3, hfz19_4, hfz19_5, hfz19_6, hfz19_7⟩ := bcf8_ BK696.out
           go_wp2_with (first | (go_at_call 49; (with_reducible refine (laws_sameExpr.calls k1 ((rd_T35 l0 x5_1).f3.f0) ((rd_T35 l0 x5_1).f3.f1) _ _ ((rd_T35 l0 x5_1).f3.f2) ((rd_T35 l1 x5_1).f3.f0) ((rd_T35 l1 x5_1).f3.f1) _ _ ((rd_T35 l1 x5_1).f3.f2) t697 _ ?side1 HC693_5.out ?side3 HC695_5.out A16.out).mono ?_); (case side1 => exact Kd.C_below HR693_5.out ab22_); (case side3 => exact Kd.C_below HR695_5.out ab22_); rintro e w20 ⟨rfl, hb⟩; replace BK694 := am (blk_below (g := gb694) (o := .cells #[.int .i64 ((rd_T35 l0 x5_1).f0), .int .i64 ((rd_T35 l0 x5_1).f1), .int .i64 ((rd_T35 l0 x5_1).f2), .int .i64 ((rd_T35 l0 x5_1).f3.f0), .int .i64 ((rd_T35 l0 x5_1).f3.f1), .slice A693_5 ((rd_T35 l0 x5_1).f3.f2).length c693_5, .slice A693_6 ((rd_T35 l0 x5_1).f4).length c693_6, .slice A693_7 ((rd_T35 l0 x5_1).f5).length c693_7] 35 (0, 0)) (blk_far (blk_far (blk_far (blk_far (blk_far (blk_far (blk_far (blk_far BK694.out NB694_696.out _) NB694_696.out _) NB694_696.out _) NB694_696.out _) NB694_696.out _) NB694_696.out _) NB694_696.out _) NB694_696.out _) hb); replace BK696 := am (blk_below (g := gb696) (o := .cells #[.int .i64 ((rd_T35 l1 x5_1).f0), .int .i64 ((rd_T35 l1 x5_1).f1), .int .i64 ((rd_T35 l1 x5_1).f2), .int .i64 ((rd_T35 l1 x5_1).f3.f0), .int .i64 ((rd_T35 l1 x5_1).f3.f1), .slice A695_5 ((rd_T35 l1 x5_1).f3.f2).length c695_5, .slice A695_6 ((rd_T35 l1 x5_1).f4).length c695_6, .slice A695_7 ((rd_T35 l1 x5_1).f5).length c695_7] 35 (0, 0)) (blk_put (blk_put (blk_put (blk_put (blk_put (blk_put (blk_put (blk_put BK696.out 0 _ rfl) 1 _ rfl) 2 _ rfl) 3 _ rfl) 4 _ rfl) 5 _ rfl) 6 _ rfl) 7 _ rfl) hb); replace HB := am (below_step ab22_ hb); (try clear hb); (try clear hb2); (try clear hk); (try clear hi)))
           go_meet
           case rel => exact ⟨_, (!t697), sd_, H', ⟨by have := HK1.out; first | omega | exact Nat.le_refl _⟩, ⟨by (with_reducible repeat (first | refine blk_drewN ?_ _ | refine blk_drew ?_ | refine blk_alloc ?_ _)); exact BK694.out⟩, ⟨by (with_reducible repeat (first | refine blk_drewN ?_ _ | refine blk_drew ?_ | refine blk_alloc ?_ _)); exact BK696.out⟩, ⟨ab22_⟩⟩
          rw [if_neg c15] at H
          have c15b0 : (((rd_T35 l0 x5_1).f2) == ((rd_T35 l1 x5_1).f2)) = false := beq_eq_false_iff_ne.mpr c15
          have c15b1 : (((rd_T35 l0 x5_1).f2) != ((rd_T35 l1 x5_1).f2)) = true := bne_iff_ne.mpr c15
          have H' := am H
          clear H
          have hnb21 := NB694_696.out
          have hnc21 := NB696_694.out
          obtain ⟨hcz22_0, hcz22_1, hcz22_2, hcz22_3, hcz22_4, hcz22_5, hcz22_6, hcz22_7, hfz22_0, hfz22_1, hfz22_2, hfz22_3, hfz22_4, hfz22_5, hfz22_6, hfz22_7⟩ := bcf8_ BK694.out
          obtain ⟨hcz23_0, hcz23_1, hcz23_2, hcz23_3, hcz23_4, hcz23_5, hcz23_6, hcz23_7, hfz23_0, hfz23_1, hfz23_2, hfz23_3, hfz23_4, hfz23_5, hfz23_6, hfz23_7⟩ := bcf8_ BK696.out
          go_wp2
          go_meet
          case rel => exact ⟨_, (true), sd_, H', ⟨by have := HK1.out; first | omega | exact Nat.le_refl _⟩, ⟨(blk_far (blk_far (blk_far (blk_far (blk_far (blk_far (blk_far (blk_far BK694.out NB694_696.out _) NB694_696.out _) NB694_696.out _) NB694_696.out _) NB694_696.out _) NB694_696.out _) NB694_696.out _) NB694_696.out _)⟩, ⟨(blk_put (blk_put (blk_put (blk_put (blk_put (blk_put (blk_put (blk_put BK696.out 0 _ rfl) 1 _ rfl) 2 _ rfl) 3 _ rfl) 4 _ rfl) 5 _ rfl) 6 _ rfl) 7 _ rfl)⟩, ⟨ab22_⟩⟩
         rw [if_neg c14] at H
         have c14b0 : (((rd_T35 l0 x5_1).f1) == ((rd_T35 l1 x5_1).f1)) = false := beq_eq_false_iff_ne.mpr c14
         have c14b1 : (((rd_T35 l0 x5_1).f1) != ((rd_T35 l1 x5_1).f1)) = true := bne_iff_ne.mpr c14
         have H' := am H
         clear H
         have hnb24 := NB694_696.out
         have hnc24 := NB696_694.out
         obtain ⟨hcz25_0, hcz25_1, hcz25_2, hcz25_3, hcz25_4, hcz25_5, hcz25_6, hcz25_7, hfz25_0, hfz25_1, hfz25_2, hfz25_3, hfz25_4, hfz25_5, hfz25_6, hfz25_7⟩ := bcf8_ BK694.out
         obtain ⟨hcz26_0, hcz26_1, hcz26_2, hcz26_3, hcz26_4, hcz26_5, hcz26_6, hcz26_7, hfz26_0, hfz26_1, hfz26_2, hfz26_3, hfz26_4, hfz26_5, hfz26_6, hfz26_7⟩ := bcf8_ BK696.out
         go_wp2
         go_meet
         case rel => exact ⟨_, (true), sd_, H', ⟨by have := HK1.out; first | omega | exact Nat.le_refl _⟩, ⟨(blk_far (blk_far (blk_far (blk_far (blk_far (blk_far (blk_far (blk_far BK694.out NB694_696.out _) NB694_696.out _) NB694_696.out _) NB694_696.out _) NB694_696.out _) NB694_696.out _) NB694_696.out _) NB694_696.out _)⟩, ⟨(blk_put (blk_put (blk_put (blk_put (blk_put (blk_put (blk_put (blk_put BK696.out 0 _ rfl) 1 _ rfl) 2 _ rfl) 3 _ rfl) 4 _ rfl) 5 _ rfl) 6 _ rfl) 7 _ rfl)⟩, ⟨ab22_⟩⟩
        rw [if_neg c13] at H
        have c13b0 : (((rd_T35 l0 x5_1).f0) == ((rd_T35 l1 x5_1).f0)) = false := beq_eq_false_iff_ne.mpr c13
        have c13b1 : (((rd_T35 l0 x5_1).f0) != ((rd_T35 l1 x5_1).f0)) = true := bne_iff_ne.mpr c13
        (first | rw [c13b0] | (simp only [i64_w, i32_w]; rw [c13b0]) | skip)
        have H' := am H
        clear H
        have hnb27 := NB694_696.out
        have hnc27 := NB696_694.out
        obtain ⟨hcz28_0, hcz28_1, hcz28_2, hcz28_3, hcz28_4, hcz28_5, hcz28_6, hcz28_7, hfz28_0, hfz28_1, hfz28_2, hfz28_3, hfz28_4, hfz28_5, hfz28_6, hfz28_7⟩ := bcf8_ BK694.out
        obtain ⟨hcz29_0, hcz29_1, hcz29_2, hcz29_3, hcz29_4, hcz29_5, hcz29_6, hcz29_7, hfz29_0, hfz29_1, hfz29_2, hfz29_3, hfz29_4, hfz29_5, hfz29_6, hfz29_7⟩ := bcf8_ BK696.out
        go_wp2
        go_meet
        case rel => exact ⟨_, (true), sd_, H', ⟨by have := HK1.out; first | omega | exact Nat.le_refl _⟩, ⟨(blk_far (blk_far (blk_far (blk_far (blk_far (blk_far (blk_far (blk_far BK694.out NB694_696.out _) NB694_696.out _) NB694_696.out _) NB694_696.out _) NB694_696.out _) NB694_696.out _) NB694_696.out _) NB694_696.out _)⟩, ⟨(blk_put (blk_put (blk_put (blk_put (blk_put (blk_put (blk_put (blk_put BK696.out 0 _ rfl) 1 _ rfl) 2 _ rfl) 3 _ rfl) 4 _ rfl) 5 _ rfl) 6 _ rfl) 7 _ rfl)⟩, ⟨ab22_⟩⟩
       case rest =>
        clear HC7
        try clear c1
        try clear c3
        try clear c3b0
        try clear c3b1
        try clear c3b2
        try clear c4
        try clear c4b0
        try clear c5
        try clear c5b0
        try clear c6
        try clear c6b0
        try clear hcz12_0
        try clear hcz12_1
        try clear hcz12_2
        try clear hcz12_3
        try clear hcz12_4
        try clear hcz12_5
        try clear hcz12_6
        try clear hcz12_7
        try clear hcz9_0
        try clear hcz9_1
        try clear hcz9_2
        try clear hcz9_3
        try clear hcz9_4
        try clear hcz9_5
        try clear hcz9_6
        try clear hcz9_7
        try clear hfz12_0
        try clear hfz12_1
        try clear hfz12_2
        try clear hfz12_3
        try clear hfz12_4
        try clear hfz12_5
        try clear hfz12_6
        try clear hfz12_7
        try clear hfz9_0
        try clear hfz9_1
        try clear hfz9_2
        try clear hfz9_3
        try clear hfz9_4
        try clear hfz9_5
        try clear hfz9_6
        try clear hfz9_7
        try clear hx693_0
        try clear hx693_1
        try clear hx693_2
        try clear hx693_3
        try clear hx693_4
        try clear hx693_5
        try clear hx693_6
        try clear hx693_7
        try clear hx695_0
        try clear hx695_1
        try clear hx695_2
        try clear hx695_3
        try clear hx695_4
        try clear hx695_5
        try clear hx695_6
        try clear hx695_7
        try clear p693
        try clear p695
        try clear q693
        try clear q695
        obtain ⟨kq, x53_6, rfl, HA, HJ6, BK694, BK696, HB⟩ := hcut
        cases kq with
        | zero => exact absurd HA.out (by simp [laws_sameStmts.j1])
        | succ kj6 =>
         have H := HA.out
         clear HA
         simp only [laws_sameStmts.j1] at H
         by_cases c30 : x53_6 = true
         ·subst c30
          rw [if_pos rfl] at H
          obtain rfl := Option.some.inj H
          go_wp2
          go_ret
          exact ⟨rr_, ab22_⟩
         replace c30 := Bool.eq_false_iff.mpr c30
         subst c30
         rw [if_neg (show ¬ (false = true) by decide)] at H
         obtain ⟨t698, A310, H⟩ := bsm H
         (try dsimp only at H)
         have A31 := am A310
         clear A310
         by_cases c32 : t698 = true
         ·subst c32
          rw [if_pos rfl] at H
          obtain ⟨t699, A330, H⟩ := bsm H
          (try dsimp only at H)
          have A33 := am A330
          clear A330
          by_cases c34 : t699 = true
          ·subst c34
           rw [if_pos rfl] at H
           have H' := am H
           clear H
           have hnb35 := NB694_696.out
           have hnc35 := NB696_694.out
           obtain ⟨hcz36_0, hcz36_1, hcz36_2, hcz36_3, hcz36_4, hcz36_5, hcz36_6, hcz36_7, hfz36_0, hfz36_1, hfz36_2, hfz36_3, hfz36_4, hfz36_5, hfz36_6, hfz36_7⟩ := bcf8_ BK694.out
           obtain ⟨hcz37_0, hcz37_1, hcz37_2, hcz37_3, hcz37_4, hcz37_5, hcz37_6, hcz37_7, hfz37_0, hfz37_1, hfz37_2, hfz37_3, hfz37_4, hfz37_5, hfz37_6, hfz37_7⟩ := bcf8_ BK696.out
           go_wp2_with (first | ((with_reducible refine gate_callee (f := 15) rfl ?_); refine goesL_ (some 58) rfl rfl Try.func15 (by kernel_rfl) rfl #[.slice A693_6 ((rd_T35 l0 x5_1).f4).length c693_6, .slice A695_6 ((rd_T35 l1 x5_1).f4).length c695_6] rfl ab1_ ?_; (with_reducible refine (ih kj6 (by have := HK1.out; have := HJ6.out; omega) _ _ ((rd_T35 l0 x5_1).f4) _ _ ((rd_T35 l1 x5_1).f4) true _ (aC_ (Kd.C_below HR693_6.out HB.out)) HC693_6.out (aC_ (Kd.C_below HR695_6.out HB.out)) HC695_6.out A31.out).mono ?_); rintro e w38 ⟨rfl, hb⟩; refine ⟨_, rfl, ?_⟩; replace BK694 := am (bbl_ BK694.out hb); replace BK696 := am (bbl_ BK696.out hb); replace HB := am (below_step ab22_ hb); (try clear hb); (try clear hb2); (try clear hk); (try clear hi); obtain ⟨hcz39_0, hcz39_1, hcz39_2, hcz39_3, hcz39_4, hcz39_5, hcz39_6, hcz39_7, hfz39_0, hfz39_1, hfz39_2, hfz39_3, hfz39_4, hfz39_5, hfz39_6, hfz39_7⟩ := bcf8_ BK694.out; obtain ⟨hcz40_0, hcz40_1, hcz40_2, hcz40_3, hcz40_4, hcz40_5, hcz40_6, hcz40_7, hfz40_0, hfz40_1, hfz40_2, hfz40_3, hfz40_4, hfz40_5, hfz40_6, hfz40_7⟩ := bcf8_ BK696.out) | (go_at_call 15; (with_reducible refine (ih kj6 (by have := HK1.out; have := HJ6.out; omega) _ _ ((rd_T35 l0 x5_1).f5) _ _ ((rd_T35 l1 x5_1).f5) true _ (aC_ (Kd.C_below HR693_7.out HB.out)) HC693_7.out (aC_ (Kd.C_below HR695_7.out HB.out)) HC695_7.out A33.out).mono ?_); rintro e w41 ⟨rfl, hb⟩; replace BK694 := am (bbl_ BK694.out hb); replace BK696 := am (bbl_ BK696.out hb); replace HB := am (below_step ab22_ hb); (try clear hb); (try clear hb2); (try clear hk); (try clear hi)))
           go_roundg kj6
           case measure => have := HK1.out; have := HJ6.out; omega
           case rel => exact ⟨(wrap64 (x5_1 + 1)), sd_, H', ⟨by have := HK1.out; have := HJ6.out; omega⟩, ⟨ab22_⟩⟩
          replace c34 := Bool.eq_false_iff.mpr c34
          subst c34
          rw [if_neg (show ¬ (false = true) by decide)] at H
          obtain rfl := Option.some.inj H
          have hnb42 := NB694_696.out
          have hnc42 := NB696_694.out
          obtain ⟨hcz43_0, hcz43_1, hcz43_2, hcz43_3, hcz43_4, hcz43_5, hcz43_6, hcz43_7, hfz43_0, hfz43_1, hfz43_2, hfz43_3, hfz43_4, hfz43_5, hfz43_6, hfz43_7⟩ := bcf8_ BK694.out
          obtain ⟨hcz44_0, hcz44_1, hcz44_2, hcz44_3, hcz44_4, hcz44_5, hcz44_6, hcz44_7, hfz44_0, hfz44_1, hfz44_2, hfz44_3, hfz44_4, hfz44_5, hfz44_6, hfz44_7⟩ := bcf8_ BK696.out
          go_wp2_with (first | ((with_reducible refine gate_callee (f := 15) rfl ?_); refine goesL_ (some 58) rfl rfl Try.func15 (by kernel_rfl) rfl #[.slice A693_6 ((rd_T35 l0 x5_1).f4).length c693_6, .slice A695_6 ((rd_T35 l1 x5_1).f4).length c695_6] rfl ab1_ ?_; (with_reducible refine (ih kj6 (by have := HK1.out; have := HJ6.out; omega) _ _ ((rd_T35 l0 x5_1).f4) _ _ ((rd_T35 l1 x5_1).f4) true _ (aC_ (Kd.C_below HR693_6.out HB.out)) HC693_6.out (aC_ (Kd.C_below HR695_6.out HB.out)) HC695_6.out A31.out).mono ?_); rintro e w45 ⟨rfl, hb⟩; refine ⟨_, rfl, ?_⟩; replace BK694 := am (bbl_ BK694.out hb); replace BK696 := am (bbl_ BK696.out hb); replace HB := am (below_step ab22_ hb); (try clear hb); (try clear hb2); (try clear hk); (try clear hi); obtain ⟨hcz46_0, hcz46_1, hcz46_2, hcz46_3, hcz46_4, hcz46_5, hcz46_6, hcz46_7, hfz46_0, hfz46_1, hfz46_2, hfz46_3, hfz46_4, hfz46_5, hfz46_6, hfz46_7⟩ := bcf8_ BK694.out; obtain ⟨hcz47_0, hcz47_1, hcz47_2, hcz47_3, hcz47_4, hcz47_5, hcz47_6, hcz47_7, hfz47_0, hfz47_1, hfz47_2, hfz47_3, hfz47_4, hfz47_5, hfz47_6, hfz47_7⟩ := bcf8_ BK696.out) | (go_at_call 15; (with_reducible refine (ih kj6 (by have := HK1.out; have := HJ6.out; omega) _ _ ((rd_T35 l0 x5_1).f5) _ _ ((rd_T35 l1 x5_1).f5) false _ (aC_ (Kd.C_below HR693_7.out HB.out)) HC693_7.out (aC_ (Kd.C_below HR695_7.out HB.out)) HC695_7.out A33.out).mono ?_); rintro e w48 ⟨rfl, hb⟩; replace BK694 := am (bbl_ BK694.out hb); replace BK696 := am (bbl_ BK696.out hb); replace HB := am (below_step ab22_ hb); (try clear hb); (try clear hb2); (try clear hk); (try clear hi)))
          go_ret
          exact ⟨rr_, ab22_⟩
         replace c32 := Bool.eq_false_iff.mpr c32
         subst c32
         rw [if_neg (show ¬ (false = true) by decide)] at H
         obtain rfl := Option.some.inj H
         have hnb49 := NB694_696.out
         have hnc49 := NB696_694.out
         obtain ⟨hcz50_0, hcz50_1, hcz50_2, hcz50_3, hcz50_4, hcz50_5, hcz50_6, hcz50_7, hfz50_0, hfz50_1, hfz50_2, hfz50_3, hfz50_4, hfz50_5, hfz50_6, hfz50_7⟩ := bcf8_ BK694.out
         obtain ⟨hcz51_0, hcz51_1, hcz51_2, hcz51_3, hcz51_4, hcz51_5, hcz51_6, hcz51_7, hfz51_0, hfz51_1, hfz51_2, hfz51_3, hfz51_4, hfz51_5, hfz51_6, hfz51_7⟩ := bcf8_ BK696.out
         go_wp2_with (first | ((with_reducible refine gate_callee (f := 15) rfl ?_); refine goesL_ (some 58) rfl rfl Try.func15 (by kernel_rfl) rfl #[.slice A693_6 ((rd_T35 l0 x5_1).f4).length c693_6, .slice A695_6 ((rd_T35 l1 x5_1).f4).length c695_6] rfl ab1_ ?_; (with_reducible refine (ih kj6 (by have := HK1.out; have := HJ6.out; omega) _ _ ((rd_T35 l0 x5_1).f4) _ _ ((rd_T35 l1 x5_1).f4) false _ (aC_ (Kd.C_below HR693_6.out HB.out)) HC693_6.out (aC_ (Kd.C_below HR695_6.out HB.out)) HC695_6.out A31.out).mono ?_); rintro e w52 ⟨rfl, hb⟩; refine ⟨_, rfl, ?_⟩; replace BK694 := am (bbl_ BK694.out hb); replace BK696 := am (bbl_ BK696.out hb); replace HB := am (below_step ab22_ hb); (try clear hb); (try clear hb2); (try clear hk); (try clear hi)))
         go_ret
         exact ⟨rr_, ab22_⟩
      rw [if_neg c6] at H
      exact absurd H (by simp)
     rw [if_neg c5] at H
     exact absurd H (by simp)
    rw [if_neg c4] at H
    have c4b0 : decide (x5_1 < (l0.length : Int)) = false := decide_eq_false c4
    clear c4
    obtain rfl := Option.some.inj H
    go_wp2
    go_ret
    exact ⟨rr_, ab2_⟩
 rw [if_neg c3] at H
 have c3b0 : ((l0.length : Int) == (l1.length : Int)) = false := beq_eq_false_iff_ne.mpr c3
 have c3b1 : ((l0.length : Int) != (l1.length : Int)) = true := bne_iff_ne.mpr c3
 have c3b2 : (l0.length == l1.length) = false := by first | simpa using c3 | (simp at c3 ⊢; omega)
 obtain rfl := Option.some.inj H
 go_enter Try.func15, Try.ntmps15
 go_wp2
 go_ret
 exact ⟨rr_, ab2_⟩
theorem laws_number.calls (a0 : Int) (r1 : Int) (r2 : Int) (r3 : List (S32)) (w : World) (h : laws_number.f a0 = some (r1, r2, r3)) :
  Calls Try.prog 16 #[.int .i64 a0] w fun e w' => ∃ v2_ : Value, e = .returned (.agg #[.int .i64 r1, .int .i64 r2, v2_]) ∧ Kd.R k32 32 w' w.heap.size (fun _ => True) v2_ r3 ∧ Below w.heap.size w w' := by
 have hu32 := Try.underlying32
 have HB := am (Below.refl w.heap.size w)
 have H : (some (0, a0, ([] : List (S32)))) = some (r1, r2, r3) := h
 clear h
 simp only [Option.some.injEq, Prod.mk.injEq] at H
 obtain ⟨rfl, rfl, rfl⟩ := H
 go_enter Try.func16, Try.ntmps16
 go_wp2_with (first | ((with_reducible refine gate_dst (N := 2) rfl ?_); refine box_event rfl (N := 2) rfl (cs := #[.int .i64 0, .int .i64 0, .slice none 0 0]) (t := 32) rn_ ?_; intro gb759 hg w2 hbox hb; have BK759 := am (hbox); have GW759 := am ((by rw [hg]; exact (below_size ab2_) : w.heap.size ≤ gb759)); have GE759 := am ((by rw [hg]; exact (below_size ab2_) : w.heap.size ≤ gb759)); replace HB := am (below_step ab2_ hb); clear hb hbox hg; obtain ⟨hcz3_0, hcz3_1, hcz3_2, hfz3_0, hfz3_1, hfz3_2⟩ := bcf3_ BK759.out))
 refine bodyPost_ret (results_cell_row rfl _ _ gb759 32 #[.int .i64 0, .int .i64 a0, .slice none 0 0] (0, 0) _ rfl (blk_put (blk_put (blk_put BK759.out 0 _ rfl) 1 _ rfl) 2 _ rfl) Try.underlying32 rfl (by kernel_rfl)) rfl ?_
 exact ⟨_, ab11_, by first | exact Kd.R_nil _ _ _ _ _ | exact Kd.N_nil _ _ _ _ _ | exact Kd.V_nil _ _ _ _ _ | exact Kd.Q_nil _ _ _ _ _ | exact Kd.S_nil _ _ _ _ _, by repeat (first | (with_reducible first | exact HB.out | apply below_alloc | apply pw_below_drewN | apply below_drew1 | refine below_set ?_ GE759.out) | exact HB.out)⟩
theorem numlit1_ (a : Int) (w : World) : Calls Try.prog 16 #[.int .i64 a] w fun e w' => ∃ A c, e = .returned (.agg #[.int .i64 0, .int .i64 a, .slice A 0 c]) ∧ Below w.heap.size w w' := by
 refine (laws_number.calls a 0 a [] w rfl).mono ?_
 rintro e w' ⟨v, rfl, hr, hb⟩
 obtain ⟨A, c, rfl⟩ := Kd.N_slice (Kd.R_N hr)
 exact ⟨A, c, rfl, hb⟩
theorem laws_FnStmtsFoldOne.calls (k : Nat) (A0 : Option Addr) (c0 : Nat) (l0 : List Int) (r : Bool) (w : World) (hr0 : Kd.C (Kd.int .u8) w A0 l0.length l0) (hc0 : l0.length ≤ c0) (h : laws_FnStmtsFoldOne.f k l0 = some r) :
  Calls Try.prog 5 #[.slice A0 l0.length c0] w fun e w' => e = .returned (.bool r) ∧ Below w.heap.size w w' := by
 unfold laws_FnStmtsFoldOne.f at h
 have HR0 := am hr0
 have HC0 := am hc0
 clear hr0 hc0
 have HB := am (Below.refl w.heap.size w)
 by_cases c2 : (l0.length : Int) > 1048576
 ·rw [if_pos c2] at h
  have c2b0 : decide (1048576 < (l0.length : Int)) = true := decide_eq_true c2
  have c2b1 : decide (1048576 < l0.length) = true := decide_eq_true (by omega)
  clear c2
  obtain rfl := Option.some.inj h
  go_enter Try.func5, Try.ntmps5
  go_wp2
  go_ret
  exact ⟨rfl, HB.out⟩
 rw [if_neg c2] at h
 have c2b0 : decide (1048576 < (l0.length : Int)) = false := decide_eq_false c2
 have c2b1 : decide (1048576 < l0.length) = false := decide_eq_false (by omega)
 clear c2
 replace h := Option.bind_eq_some_iff.mp h
 obtain ⟨t, h3, h⟩ := h
 (try dsimp only at h3 h)
 have H3 := am h3
 clear h3
 replace h := Option.bind_eq_some_iff.mp h
 obtain ⟨⟨a, oa⟩, h4, h⟩ := h
 (try dsimp only at h4 h)
 have H4 := am h4
 clear h4
 replace h := Option.bind_eq_some_iff.mp h
 obtain ⟨⟨b, ob⟩, h5, h⟩ := h
 (try dsimp only at h5 h)
 have H5 := am h5
 clear h5
 by_cases c4 : oa = ob
 case neg => rw [if_neg c4] at h; exact absurd h (by simp)
 subst c4
 rw [if_pos rfl] at h
 replace h := Option.bind_eq_some_iff.mp h
 obtain ⟨e, h6, h⟩ := h
 (try dsimp only at h6 h)
 have H6 := am h6
 clear h6
 cases e with
 | false => exact absurd h (by simp)
 | true =>
 rw [if_pos rfl] at h
 cases oa with
 | false =>
  rw [if_neg Bool.false_ne_true] at h
  obtain rfl := Option.some.inj h
  go_enter Try.func5, Try.ntmps5
  go_wp2_with (first | ((with_reducible refine gate_callee (f := 12) rfl ?_); refine goesL_ (some 18) rfl rfl Try.func12 (by kernel_rfl) rfl #[.slice A0 l0.length c0] rfl (by (try simp only [List.map_toArray, List.map_cons, List.map_nil]); first | done | rfl) ?_; (with_reducible refine (spec_DrawStmtsFold.calls k _ _ l0 t _ HR0.out HC0.out H3.out).mono ?_); rintro e w1 ⟨v1, rfl, ho, hb⟩; refine ⟨_, rfl, ?_⟩; have HT := am (Kd.N_lower (Kd.N_mono (ok' := fun k_ => True) ho (fun _ _ => trivial)) HB.out.size); obtain ⟨At, ct, e_⟩ := Kd.N_slice HT.out; subst e_; clear ho; replace HB := am (below_step HB.out hb); clear hb) | ((with_reducible refine gate_callee (f := 13) rfl ?_); refine goesL_ (some 21) rfl rfl Try.func13 (by kernel_rfl) rfl #[.slice At t.length ct] rfl (by (try simp only [List.map_toArray, List.map_cons, List.map_nil]); first | done | rfl) ?_; (with_reducible refine (impl_StmtsFold.calls k _ _ t a false _ (Kd.N_reads' HT.out).2.2 (Kd.N_reads' HT.out).2.1 H4.out).mono ?_); rintro e w2 ⟨v_, rfl, ho, hb⟩; refine ⟨_, rfl, ?_⟩; have HA := am (Kd.N_lower (Kd.N_mono (ok' := fun k_ => True) ho (fun _ _ => trivial)) HB.out.size); obtain ⟨Aa, ca, e_⟩ := Kd.N_slice HA.out; subst e_; clear ho; replace HT := am (Kd.N_below HT.out hb); replace HB := am (below_step HB.out hb); clear hb) | ((with_reducible refine gate_callee (f := 14) rfl ?_); refine goesL_ (some 26) rfl rfl Try.func14 (by kernel_rfl) rfl #[.slice At t.length ct] rfl (by (try simp only [List.map_toArray, List.map_cons, List.map_nil]); first | done | rfl) ?_; (with_reducible refine (spec_StmtsFold.calls k _ _ t b false _ (Kd.N_reads' HT.out).2.2 (Kd.N_reads' HT.out).2.1 H5.out).mono ?_); rintro e w3 ⟨v_, rfl, ho, hb⟩; refine ⟨_, rfl, ?_⟩; have HD := am (Kd.N_lower (Kd.N_mono (ok' := fun k_ => True) ho (fun _ _ => trivial)) HB.out.size); obtain ⟨Ab, cb, e_⟩ := Kd.N_slice HD.out; subst e_; clear ho; replace HT := am (Kd.N_below HT.out hb); replace HA := am (Kd.N_below HA.out hb); replace HB := am (below_step HB.out hb); clear hb) | (go_at_call 15; (with_reducible refine (laws_sameStmts.calls k _ _ a _ _ b true _ (Kd.N_reads' HA.out).2.2 (Kd.N_reads' HA.out).2.1 (Kd.N_reads' HD.out).2.2 (Kd.N_reads' HD.out).2.1 H6.out).mono ?_); rintro e w4 ⟨rfl, hb⟩; replace HT := am (Kd.N_below HT.out hb); replace HA := am (Kd.N_below HA.out hb); replace HD := am (Kd.N_below HD.out hb); replace HB := am (below_step HB.out hb); clear hb) | fail)
  go_ret
  exact ⟨rfl, HB.out⟩
 | true =>
 rw [if_pos rfl] at h
 replace h := Option.bind_eq_some_iff.mp h
 obtain ⟨⟨p, op⟩, h7, h⟩ := h
 (try dsimp only at h7 h)
 have H7 := am h7
 clear h7
 replace h := Option.bind_eq_some_iff.mp h
 obtain ⟨⟨q, oq⟩, h8, h⟩ := h
 (try dsimp only at h8 h)
 have H8 := am h8
 clear h8
 replace h := Option.bind_eq_some_iff.mp h
 obtain ⟨v, h9, h⟩ := h
 (try dsimp only at h9 h)
 have H9 := am h9
 clear h9
 go_enter Try.func5, Try.ntmps5
 go_upto_region 8 with (first | ((with_reducible refine gate_callee (f := 12) rfl ?_); refine goesL_ (some 18) rfl rfl Try.func12 (by kernel_rfl) rfl #[.slice A0 l0.length c0] rfl (by (try simp only [List.map_toArray, List.map_cons, List.map_nil]); first | done | rfl) ?_; (with_reducible refine (spec_DrawStmtsFold.calls k _ _ l0 t _ HR0.out HC0.out H3.out).mono ?_); rintro e w1 ⟨v1, rfl, ho, hb⟩; refine ⟨_, rfl, ?_⟩; have HT := am (Kd.N_lower (Kd.N_mono (ok' := fun k_ => True) ho (fun _ _ => trivial)) HB.out.size); obtain ⟨At, ct, e_⟩ := Kd.N_slice HT.out; subst e_; clear ho; replace HB := am (below_step HB.out hb); clear hb) | ((with_reducible refine gate_callee (f := 13) rfl ?_); refine goesL_ (some 21) rfl rfl Try.func13 (by kernel_rfl) rfl #[.slice At t.length ct] rfl (by (try simp only [List.map_toArray, List.map_cons, List.map_nil]); first | done | rfl) ?_; (with_reducible refine (impl_StmtsFold.calls k _ _ t a true _ (Kd.N_reads' HT.out).2.2 (Kd.N_reads' HT.out).2.1 H4.out).mono ?_); rintro e w2 ⟨v_, rfl, ho, hb⟩; refine ⟨_, rfl, ?_⟩; have HA := am (Kd.N_lower (Kd.N_mono (ok' := fun k_ => True) ho (fun _ _ => trivial)) HB.out.size); obtain ⟨Aa, ca, e_⟩ := Kd.N_slice HA.out; subst e_; clear ho; replace HT := am (Kd.N_below HT.out hb); replace HB := am (below_step HB.out hb); clear hb) | ((with_reducible refine gate_callee (f := 14) rfl ?_); refine goesL_ (some 26) rfl rfl Try.func14 (by kernel_rfl) rfl #[.slice At t.length ct] rfl (by (try simp only [List.map_toArray, List.map_cons, List.map_nil]); first | done | rfl) ?_; (with_reducible refine (spec_StmtsFold.calls k _ _ t b true _ (Kd.N_reads' HT.out).2.2 (Kd.N_reads' HT.out).2.1 H5.out).mono ?_); rintro e w3 ⟨v_, rfl, ho, hb⟩; refine ⟨_, rfl, ?_⟩; have HD := am (Kd.N_lower (Kd.N_mono (ok' := fun k_ => True) ho (fun _ _ => trivial)) HB.out.size); obtain ⟨Ab, cb, e_⟩ := Kd.N_slice HD.out; subst e_; clear ho; replace HT := am (Kd.N_below HT.out hb); replace HA := am (Kd.N_below HA.out hb); replace HB := am (below_step HB.out hb); clear hb) | (go_at_call 15; (with_reducible refine (laws_sameStmts.calls k _ _ a _ _ b true _ (Kd.N_reads' HA.out).2.2 (Kd.N_reads' HA.out).2.1 (Kd.N_reads' HD.out).2.2 (Kd.N_reads' HD.out).2.1 H6.out).mono ?_); rintro e w4 ⟨rfl, hb⟩; replace HT := am (Kd.N_below HT.out hb); replace HA := am (Kd.N_below HA.out hb); replace HD := am (Kd.N_below HD.out hb); replace HB := am (below_step HB.out hb); clear hb) | fail)
 clear H3 H4 H5 H6 HR0 HC0
 go_upto_region 9 with (first | ((with_reducible refine gate_callee (f := 16) rfl ?_); refine goesL_ (some 50) rfl rfl Try.func16 (by kernel_rfl) rfl #[.int .i64 1] rfl (by (try simp only [List.map_toArray, List.map_cons, List.map_nil]); first | done | rfl) ?_; (with_reducible refine (numlit1_ 1 _).mono ?_); rintro e w5 ⟨A1, c1, rfl, hb⟩; refine ⟨_, rfl, ?_⟩; replace HT := am (Kd.N_below HT.out hb); replace HA := am (Kd.N_below HA.out hb); replace HD := am (Kd.N_below HD.out hb); replace HB := am (below_step HB.out hb); clear hb) | ((with_reducible refine gate_dst (N := 53) rfl ?_); refine Kd.N_lit k35 w5.heap.size 35 rfl (N' := 53) rfl (w0 := w5) (xs := [(⟨2, 0, 0, ⟨0, 1, []⟩, t, []⟩ : S35)]) (inner := [.int .i64 2, .int .i64 0, .int .i64 0, .int .i64 0, .int .i64 1, .slice A1 0 c1, .slice At t.length ct, .slice none 0 0]) (ok := fun _ => True) (okp := fun _ => True) ?hr (Reps.c8 (show Kd.FK k35 _ _ (⟨2, 0, 0, ⟨0, 1, []⟩, t, []⟩ : S35) [.int .i64 2, .int .i64 0, .int .i64 0, .int .i64 0, .int .i64 1, .slice A1 0 c1, .slice At t.length ct, .slice none 0 0] from k35_mkF _ _ (⟨2, 0, 0, ⟨0, 1, []⟩, t, []⟩ : S35) (Nat.zero_le _) (empty_F k32 _ _ A1) (Kd.N_reads' HT.out).2.1 (Kd.N_F HT.out) (Nat.le_refl _) (Kd.F_nil _ _ _)) (Reps.none _ _)) (fun _ hq => hq) trivial (Below.refl _ _) (Nat.le_refl _) (by simp) ?_; (case hr => first | (go_simp; done) | (go_simp; rfl)); intro v9 w9_ ho hb _ _; have HY := am (Kd.N_lower (Kd.N_mono (ok' := fun k_ => True) ho (fun _ _ => trivial)) HB.out.size); obtain ⟨Ay, cy, e_⟩ := Kd.N_slice HY.out; subst e_; clear ho; replace HT := am (Kd.N_below HT.out hb); replace HA := am (Kd.N_below HA.out hb); replace HD := am (Kd.N_below HD.out hb); replace HB := am (below_step HB.out hb); clear hb) | fail)
 go_upto_region 10 with (first | ((with_reducible refine gate_callee (f := 16) rfl ?_); refine goesL_ (some 54) rfl rfl Try.func16 (by kernel_rfl) rfl #[.int .i64 0] rfl (by (try simp only [List.map_toArray, List.map_cons, List.map_nil]); first | done | rfl) ?_; (with_reducible refine (numlit1_ 0 _).mono ?_); rintro e w6 ⟨A2, c2, rfl, hb⟩; refine ⟨_, rfl, ?_⟩; replace HT := am (Kd.N_below HT.out hb); replace HA := am (Kd.N_below HA.out hb); replace HD := am (Kd.N_below HD.out hb); replace HY := am (Kd.N_below HY.out hb); replace HB := am (below_step HB.out hb); clear hb) | ((with_reducible refine gate_dst (N := 57) rfl ?_); refine Kd.N_lit k35 w6.heap.size 35 rfl (N' := 57) rfl (w0 := w6) (xs := [(⟨2, 0, 0, ⟨0, 0, []⟩, t, []⟩ : S35)]) (inner := [.int .i64 2, .int .i64 0, .int .i64 0, .int .i64 0, .int .i64 0, .slice A2 0 c2, .slice At t.length ct, .slice none 0 0]) (ok := fun _ => True) (okp := fun _ => True) ?hr (Reps.c8 (show Kd.FK k35 _ _ (⟨2, 0, 0, ⟨0, 0, []⟩, t, []⟩ : S35) [.int .i64 2, .int .i64 0, .int .i64 0, .int .i64 0, .int .i64 0, .slice A2 0 c2, .slice At t.length ct, .slice none 0 0] from k35_mkF _ _ (⟨2, 0, 0, ⟨0, 0, []⟩, t, []⟩ : S35) (Nat.zero_le _) (empty_F k32 _ _ A2) (Kd.N_reads' HT.out).2.1 (Kd.N_F HT.out) (Nat.le_refl _) (Kd.F_nil _ _ _)) (Reps.none _ _)) (fun _ hq => hq) trivial (Below.refl _ _) (Nat.le_refl _) (by simp) ?_; (case hr => first | (go_simp; done) | (go_simp; rfl)); intro v9 w9_ ho hb _ _; have HN := am (Kd.N_lower (Kd.N_mono (ok' := fun k_ => True) ho (fun _ _ => trivial)) HB.out.size); obtain ⟨An, cn, e_⟩ := Kd.N_slice HN.out; subst e_; clear ho; replace HT := am (Kd.N_below HT.out hb); replace HA := am (Kd.N_below HA.out hb); replace HD := am (Kd.N_below HD.out hb); replace HY := am (Kd.N_below HY.out hb); replace HB := am (below_step HB.out hb); clear hb) | fail)
 obtain ⟨ys, hys⟩ : ∃ ys : List S35, ys = [(⟨2, 0, 0, ⟨0, 1, []⟩, t, []⟩ : S35)] := ⟨_, rfl⟩
 obtain ⟨ns, hns⟩ : ∃ ns : List S35, ns = [(⟨2, 0, 0, ⟨0, 0, []⟩, t, []⟩ : S35)] := ⟨_, rfl⟩
 clear hys hns ys ns
 cases v with
 | false =>
  rw [if_neg Bool.false_ne_true] at h
  cases op with
  | true => exact absurd h (by simp)
  | false =>
  rw [if_pos rfl] at h
  cases oq with
  | true => exact absurd h (by simp)
  | false =>
  rw [if_pos rfl] at h
  obtain rfl := Option.some.inj h
  go_wp2_with (first | ((with_reducible refine gate_callee (f := 13) rfl ?_); refine goesL_ (some 60) rfl rfl Try.func13 (by kernel_rfl) rfl #[.slice Ay [(⟨2, 0, 0, ⟨0, 1, []⟩, t, []⟩ : S35)].length cy] rfl (by (try simp only [List.map_toArray, List.map_cons, List.map_nil]); first | done | rfl) ?_; (with_reducible refine (impl_StmtsFold.calls k _ _ [(⟨2, 0, 0, ⟨0, 1, []⟩, t, []⟩ : S35)] p false _ (Kd.N_reads' HY.out).2.2 (Kd.N_reads' HY.out).2.1 H7.out).mono ?_); rintro e w7 ⟨v_, rfl, ho, hb⟩; refine ⟨_, rfl, ?_⟩; have HP := am (Kd.N_lower (Kd.N_mono (ok' := fun k_ => True) ho (fun _ _ => trivial)) HB.out.size); obtain ⟨Ap, cp, e_⟩ := Kd.N_slice HP.out; subst e_; clear ho; replace HT := am (Kd.N_below HT.out hb); replace HA := am (Kd.N_below HA.out hb); replace HD := am (Kd.N_below HD.out hb); replace HY := am (Kd.N_below HY.out hb); replace HN := am (Kd.N_below HN.out hb); replace HB := am (below_step HB.out hb); clear hb) | ((with_reducible refine gate_callee (f := 13) rfl ?_); refine goesL_ (some 65) rfl rfl Try.func13 (by kernel_rfl) rfl #[.slice An [(⟨2, 0, 0, ⟨0, 0, []⟩, t, []⟩ : S35)].length cn] rfl (by (try simp only [List.map_toArray, List.map_cons, List.map_nil]); first | done | rfl) ?_; (with_reducible refine (impl_StmtsFold.calls k _ _ [(⟨2, 0, 0, ⟨0, 0, []⟩, t, []⟩ : S35)] q false _ (Kd.N_reads' HN.out).2.2 (Kd.N_reads' HN.out).2.1 H8.out).mono ?_); rintro e w8 ⟨v_, rfl, ho, hb⟩; refine ⟨_, rfl, ?_⟩; have HQ := am (Kd.N_lower (Kd.N_mono (ok' := fun k_ => True) ho (fun _ _ => trivial)) HB.out.size); obtain ⟨Aq, cq, e_⟩ := Kd.N_slice HQ.out; subst e_; clear ho; replace HT := am (Kd.N_below HT.out hb); replace HA := am (Kd.N_below HA.out hb); replace HD := am (Kd.N_below HD.out hb); replace HY := am (Kd.N_below HY.out hb); replace HN := am (Kd.N_below HN.out hb); replace HP := am (Kd.N_below HP.out hb); replace HB := am (below_step HB.out hb); clear hb) | ((with_reducible refine gate_callee (f := 17) rfl ?_); refine goesL_ (some 69) rfl rfl Try.func17 (by kernel_rfl) rfl #[.slice Ay [(⟨2, 0, 0, ⟨0, 1, []⟩, t, []⟩ : S35)].length cy] rfl (by (try simp only [List.map_toArray, List.map_cons, List.map_nil]); first | done | rfl) ?_; (with_reducible refine (impl_StmtsValid.calls k _ _ [(⟨2, 0, 0, ⟨0, 1, []⟩, t, []⟩ : S35)] false _ (Kd.N_reads' HY.out).2.2 (Kd.N_reads' HY.out).2.1 H9.out).mono ?_); rintro e w10 ⟨rfl, hb⟩; refine ⟨_, rfl, ?_⟩; replace HT := am (Kd.N_below HT.out hb); replace HA := am (Kd.N_below HA.out hb); replace HD := am (Kd.N_below HD.out hb); replace HY := am (Kd.N_below HY.out hb); replace HN := am (Kd.N_below HN.out hb); replace HP := am (Kd.N_below HP.out hb); replace HQ := am (Kd.N_below HQ.out hb); replace HB := am (below_step HB.out hb); clear hb) | fail)
  go_ret
  exact ⟨rfl, HB.out⟩
 | true =>
 rw [if_pos rfl] at h
 cases op with
 | false => exact absurd h (by simp)
 | true =>
 rw [if_pos rfl] at h
 cases oq with
 | false => exact absurd h (by simp)
 | true =>
 rw [if_pos rfl] at h
 replace h := Option.bind_eq_some_iff.mp h
 obtain ⟨s, h10, h⟩ := h
 (try dsimp only at h10 h)
 have H10 := am h10
 clear h10
 cases s with
 | false => exact absurd h (by simp)
 | true =>
 rw [if_pos rfl] at h
 obtain rfl := Option.some.inj h
 go_wp2_with (first | ((with_reducible refine gate_callee (f := 13) rfl ?_); refine goesL_ (some 60) rfl rfl Try.func13 (by kernel_rfl) rfl #[.slice Ay [(⟨2, 0, 0, ⟨0, 1, []⟩, t, []⟩ : S35)].length cy] rfl (by (try simp only [List.map_toArray, List.map_cons, List.map_nil]); first | done | rfl) ?_; (with_reducible refine (impl_StmtsFold.calls k _ _ [(⟨2, 0, 0, ⟨0, 1, []⟩, t, []⟩ : S35)] p true _ (Kd.N_reads' HY.out).2.2 (Kd.N_reads' HY.out).2.1 H7.out).mono ?_); rintro e w7 ⟨v_, rfl, ho, hb⟩; refine ⟨_, rfl, ?_⟩; have HP := am (Kd.N_lower (Kd.N_mono (ok' := fun k_ => True) ho (fun _ _ => trivial)) HB.out.size); obtain ⟨Ap, cp, e_⟩ := Kd.N_slice HP.out; subst e_; clear ho; replace HT := am (Kd.N_below HT.out hb); replace HA := am (Kd.N_below HA.out hb); replace HD := am (Kd.N_below HD.out hb); replace HY := am (Kd.N_below HY.out hb); replace HN := am (Kd.N_below HN.out hb); replace HB := am (below_step HB.out hb); clear hb) | ((with_reducible refine gate_callee (f := 13) rfl ?_); refine goesL_ (some 65) rfl rfl Try.func13 (by kernel_rfl) rfl #[.slice An [(⟨2, 0, 0, ⟨0, 0, []⟩, t, []⟩ : S35)].length cn] rfl (by (try simp only [List.map_toArray, List.map_cons, List.map_nil]); first | done | rfl) ?_; (with_reducible refine (impl_StmtsFold.calls k _ _ [(⟨2, 0, 0, ⟨0, 0, []⟩, t, []⟩ : S35)] q true _ (Kd.N_reads' HN.out).2.2 (Kd.N_reads' HN.out).2.1 H8.out).mono ?_); rintro e w8 ⟨v_, rfl, ho, hb⟩; refine ⟨_, rfl, ?_⟩; have HQ := am (Kd.N_lower (Kd.N_mono (ok' := fun k_ => True) ho (fun _ _ => trivial)) HB.out.size); obtain ⟨Aq, cq, e_⟩ := Kd.N_slice HQ.out; subst e_; clear ho; replace HT := am (Kd.N_below HT.out hb); replace HA := am (Kd.N_below HA.out hb); replace HD := am (Kd.N_below HD.out hb); replace HY := am (Kd.N_below HY.out hb); replace HN := am (Kd.N_below HN.out hb); replace HP := am (Kd.N_below HP.out hb); replace HB := am (below_step HB.out hb); clear hb) | ((with_reducible refine gate_callee (f := 17) rfl ?_); refine goesL_ (some 69) rfl rfl Try.func17 (by kernel_rfl) rfl #[.slice Ay [(⟨2, 0, 0, ⟨0, 1, []⟩, t, []⟩ : S35)].length cy] rfl (by (try simp only [List.map_toArray, List.map_cons, List.map_nil]); first | done | rfl) ?_; (with_reducible refine (impl_StmtsValid.calls k _ _ [(⟨2, 0, 0, ⟨0, 1, []⟩, t, []⟩ : S35)] true _ (Kd.N_reads' HY.out).2.2 (Kd.N_reads' HY.out).2.1 H9.out).mono ?_); rintro e w10 ⟨rfl, hb⟩; refine ⟨_, rfl, ?_⟩; replace HT := am (Kd.N_below HT.out hb); replace HA := am (Kd.N_below HA.out hb); replace HD := am (Kd.N_below HD.out hb); replace HY := am (Kd.N_below HY.out hb); replace HN := am (Kd.N_below HN.out hb); replace HP := am (Kd.N_below HP.out hb); replace HQ := am (Kd.N_below HQ.out hb); replace HB := am (below_step HB.out hb); clear hb) | (go_at_call 15; (with_reducible refine (laws_sameStmts.calls k _ _ p _ _ a true _ (Kd.N_reads' HP.out).2.2 (Kd.N_reads' HP.out).2.1 (Kd.N_reads' HA.out).2.2 (Kd.N_reads' HA.out).2.1 H10.out).mono ?_); rintro e w11 ⟨rfl, hb⟩; replace HT := am (Kd.N_below HT.out hb); replace HA := am (Kd.N_below HA.out hb); replace HD := am (Kd.N_below HD.out hb); replace HY := am (Kd.N_below HY.out hb); replace HN := am (Kd.N_below HN.out hb); replace HP := am (Kd.N_below HP.out hb); replace HQ := am (Kd.N_below HQ.out hb); replace HB := am (below_step HB.out hb); clear hb) | fail)
 go_ret
 exact ⟨rfl, HB.out⟩
end Go.Proofs.Ytodhbeeibagiaaa.PA

namespace Go.Proofs.Ytodhbeeibagiaaa.Core
open Go.RowKit Go.Proofs.YtodhbeeibagiaaaW.PrintWords Go.Proofs.YtodhbeeibagiaaaW.PrintMore
section
variable {α β : Type} {g h : Nat → Option α} {P Q : α → Prop}
def EvP (g : Nat → Option α) (P : α → Prop) : Prop := ∃ r, Ev g r ∧ P r
theorem EvP.ret {r : α} (h : P r) : EvP (fun _ => some r) P := ⟨r, Ev.now r, h⟩
theorem EvP.mono (h : EvP g P) (k : ∀ a, P a → Q a) : EvP g Q := by
 obtain ⟨r, h1, h2⟩ := h
 exact ⟨r, h1, k r h2⟩
theorem EvP.bind {f : Nat → α → Option β} {R : β → Prop} (h : EvP g P) (k : ∀ a, P a → EvP (fun n => f n a) R) : EvP (fun n => (g n).bind (f n)) R := by
 obtain ⟨a, h1, h2⟩ := h
 obtain ⟨r, k1, k2⟩ := k a h2
 exact ⟨r, Ev.bind h1 k1, k2⟩
theorem EvP.bind0 {o : Option α} {a : α} {f : Nat → α → Option β} {R : β → Prop} (h : o = some a) (k : EvP (fun n => f n a) R) : EvP (fun n => o.bind (f n)) R := by
 subst h
 exact k
theorem EvP.ite {c : Prop} [Decidable c] (h1 : c → EvP g P) (h2 : ¬ c → EvP h P) : EvP (fun n => if c then g n else h n) P := by
 by_cases hc : c
 ·simp only [if_pos hc]
  exact h1 hc
 ·simp only [if_neg hc]
  exact h2 hc
theorem EvP.yes {c : Prop} [Decidable c] (hc : c) (h1 : EvP g P) : EvP (fun n => if c then g n else h n) P := by
 simp only [if_pos hc]
 exact h1
theorem EvP.no {c : Prop} [Decidable c] (hc : ¬ c) (h1 : EvP h P) : EvP (fun n => if c then g n else h n) P := by
 simp only [if_neg hc]
 exact h1
theorem EvP.step {f : Nat → Option α} (h : ∀ k, g (k + 1) = f k) (k : EvP f P) : EvP g P := by
 obtain ⟨r, h1, h2⟩ := k
 exact ⟨r, Ev.step h h1, h2⟩
theorem EvP.ends {r : α} (h : EvP g (· = r)) : ∃ k, g k = some r := by
  obtain ⟨a, h1, h2⟩ := h
  subst h2
  exact h1.rounds
theorem EvP.congr {f : Nat → Option α} (h : ∀ k, g k = f k) (k : EvP f P) : EvP g P := by
 obtain ⟨r, h1, h2⟩ := k
 exact ⟨r, Ev.congr h h1, h2⟩
theorem EvP.bindEq {f : Nat → α → Option β} {R : β → Prop} {a : α} (h : EvP g (· = a)) (k : EvP (fun n => f n a) R) : EvP (fun n => (g n).bind (f n)) R :=
  EvP.bind h (fun b hb => by subst hb; exact k)
end
theorem w64 {n : Int} (h1 : -9223372036854775808 ≤ n) (h2 : n ≤ 9223372036854775807) : wrap64 n = n := by
 unfold wrap64
 omega
theorem rd_mem (xs : List Int) (i : Int) (h0 : 0 ≤ i) (h : i < xs.length) : rd xs i ∈ xs := by
 unfold rd
 rw [List.getD_eq_getElem?_getD, List.getElem?_eq_getElem (by omega)]
 exact List.getElem_mem _
theorem tm_range {a b : Int} (h0 : 0 ≤ a) (hb : 0 < b) : 0 ≤ Int.tmod a b ∧ Int.tmod a b < b := by
 rw [Int.tmod_eq_emod_of_nonneg h0]
 exact ⟨Int.emod_nonneg _ (by omega), Int.emod_lt_of_pos _ hb⟩
end Go.Proofs.Ytodhbeeibagiaaa.Core

namespace Go.Proofs.Ytodhbeeibagiaaa.PA
open Go.RowKit Go.Proofs.YtodhbeeibagiaaaW.PrintWords Go.Proofs.YtodhbeeibagiaaaW.PrintMore Go.Proofs.Ytodhbeeibagiaaa.Core
def vw (n : Int) : Bool := decide (-2147483648 ≤ n) && decide (n ≤ 2147483647)
theorem vw_iff {n : Int} : vw n = true ↔ -2147483648 ≤ n ∧ n ≤ 2147483647 := by
 unfold vw
 rw [Bool.and_eq_true, decide_eq_true_eq, decide_eq_true_eq]
theorem and31 (b : Int) : 0 ≤ Go.bits .and .i64 b 31 ∧ Go.bits .and .i64 b 31 ≤ 31 := by
 simp only [Go.bits]
 rw [show IntKind.i64.bits = 64 from rfl, IntKind.wrap_i64, BitVec.toNat_and]
 have h : (BitVec.ofInt 64 b).toNat &&& (BitVec.ofInt 64 31).toNat ≤ (BitVec.ofInt 64 31).toNat := Nat.and_le_right
 have e : (BitVec.ofInt 64 31).toNat = 31 := by decide
 rw [e] at h ⊢
 omega
theorem w32_w64 (a : Int) : wrap32 (wrap64 a) = wrap32 a := by
 unfold wrap32 wrap64
 omega
theorem w64_w32 (a : Int) : wrap64 (wrap32 a) = wrap32 a := by
 unfold wrap32 wrap64
 omega
def ap (op a b : Int) : Int :=
 if op = 1 then Go.bits .or .i64 a b else if op = 2 then Go.bits .xor .i64 a b else if op = 3 then Go.bits .and .i64 a b
 else if op = 4 then (if a = b then 1 else 0) else if op = 5 then (if a < b then 1 else 0)
 else if op = 6 then wrap32 (shl .i64 a (Go.bits .and .i64 b 31)) else if op = 7 then shr .i64 a (Go.bits .and .i64 b 31)
 else if op = 8 then wrap32 (a + b) else if op = 9 then wrap32 (a - b) else if op = 10 then wrap32 (a * b)
 else if op = 11 then (if b = 0 then -1 else wrap32 (Int.tdiv a b)) else if b = 0 then a else Int.tmod a b
end Go.Proofs.Ytodhbeeibagiaaa.PA

namespace Go.Proofs.Ytodhbeeibagiaaa.PA
open Go.RowKit Go.Proofs.YtodhbeeibagiaaaW.PrintWords Go.Proofs.Ytodhbeeibagiaaa.Core
theorem l6In_eq (a b c : Int) : spec_l6In.f a b c = some (decide (b ≤ a) && decide (a ≤ c)) := by
 unfold spec_l6In.f
 by_cases h : a ≥ b
 ·rw [if_pos h, decide_eq_true h, Bool.true_and]
 ·rw [if_neg h, decide_eq_false h, Bool.false_and]
theorem spec_WordValid_eq (a : Int) : spec_WordValid.f a = some (vw a) := by
 unfold spec_WordValid.f
 rw [l6In_eq]
 rfl
end Go.Proofs.Ytodhbeeibagiaaa.PA

namespace Go.Proofs.Ytodhbeeibagiaaa.PA
open Go.RowKit Go.Proofs.Ytodhbeeibagiaaa.Core
inductive X where
 | num (n : Int)
 | var (v : Int)
 | bin (op : Int) (a b : X)
namespace X
def ok : X → Prop
 | num n => 0 ≤ n ∧ n ≤ 99999
 | var v => 0 ≤ v ∧ v < 4
 | bin op a b => (1 ≤ op ∧ op ≤ 12) ∧ a.ok ∧ b.ok
def depth : X → Nat
 | num _ => 1
 | var _ => 1
 | bin _ a b => max a.depth b.depth + 1
def size : X → Nat
 | num _ => 1
 | var _ => 1
 | bin _ a b => a.size + b.size + 1
def eval (g : Int → Int) : X → Int
 | num n => n
 | var v => g v
 | bin op a b => ap op (a.eval g) (b.eval g)
def foldB (op : Int) : X → X → X
 | num m, num n => if 0 ≤ ap op m n ∧ ap op m n ≤ 99999 then num (ap op m n) else bin op (num m) (num n)
 | a, b => bin op a b
def fold : X → X
 | num n => num n
 | var v => var v
 | bin op a b => foldB op a.fold b.fold
def isNum : X → Bool
 | num _ => true
 | _ => false
theorem foldB_ok {op : Int} (ho : 1 ≤ op ∧ op ≤ 12) : ∀ {a b : X}, a.ok → b.ok → (foldB op a b).ok := by
 intro a b ha hb
 unfold foldB
 split
 ·split
  ·assumption
  ·exact ⟨ho, ha, hb⟩
 ·exact ⟨ho, ha, hb⟩
theorem fold_ok : ∀ x : X, x.ok → x.fold.ok
 | num _, h => h
 | var _, h => h
 | bin _ a b, h => foldB_ok h.1 (fold_ok a h.2.1) (fold_ok b h.2.2)
theorem foldB_of {op : Int} {a b : X} (h : ∀ m n, a = num m → b = num n → ¬ (0 ≤ ap op m n ∧ ap op m n ≤ 99999)) : foldB op a b = bin op a b := by
 unfold foldB
 split
 ·rw [if_neg (h _ _ rfl rfl)]
 ·rfl
end X
end Go.Proofs.Ytodhbeeibagiaaa.PA

namespace Go.Proofs.Ytodhbeeibagiaaa.PA
open Go.RowKit Go.Proofs.YtodhbeeibagiaaaW.PrintWords Go.Proofs.YtodhbeeibagiaaaW.PrintMore Go.Proofs.Ytodhbeeibagiaaa.Core
def emb : X → S32
 | .num n => ⟨0, n, []⟩
 | .var v => ⟨13, v, []⟩
 | .bin op a b => ⟨op, 0, [emb a, emb b]⟩
theorem rdE_0 (a b : S32) : rd_T32 [a, b] 0 = a := rfl
theorem rdE_1 (a b : S32) : rd_T32 [a, b] 1 = b := rfl
theorem etaE (a : S32) : (⟨a.f0, a.f1, a.f2⟩ : S32) = a := by
 cases a
 rfl
def vx : Nat → Int → Int → List S32 → Bool
 | 0, _, _, _ => false
 | d + 1, op, n, l =>
  if op = 0 then decide (0 ≤ n) && (decide (n ≤ 99999) && decide (l.length = 0))
  else if op = 13 then decide (0 ≤ n) && (decide (n < 4) && decide (l.length = 0))
  else decide (1 ≤ op) && (decide (op ≤ 12) && (decide (n = 0) && (match l with
   | [a, b] => vx d a.f0 a.f1 a.f2 && vx d b.f0 b.f1 b.f2
   | _ => false)))
theorem two_of {α : Type} {l : List α} (h : l.length = 2) : ∃ a b, l = [a, b] := by
 match l, h with
 | [a, b], _ => exact ⟨a, b, rfl⟩
theorem vx_tree : ∀ (d : Nat) (op n : Int) (l : List S32), vx d op n l = true → ∃ x : X, x.ok ∧ x.depth ≤ d ∧ emb x = ⟨op, n, l⟩
 | 0, _, _, _, h => by cases h
 | d + 1, op, n, l, h => by
  unfold vx at h
  by_cases h0 : op = 0
  ·rw [if_pos h0] at h
   simp only [Bool.and_eq_true, decide_eq_true_eq] at h
   subst h0
   exact ⟨.num n, ⟨h.1, h.2.1⟩, by simp [X.depth], by rw [emb, List.eq_nil_of_length_eq_zero h.2.2]⟩
  ·rw [if_neg h0] at h
   by_cases h13 : op = 13
   ·rw [if_pos h13] at h
    simp only [Bool.and_eq_true, decide_eq_true_eq] at h
    subst h13
    exact ⟨.var n, ⟨h.1, h.2.1⟩, by simp [X.depth], by rw [emb, List.eq_nil_of_length_eq_zero h.2.2]⟩
   ·rw [if_neg h13] at h
    simp only [Bool.and_eq_true, decide_eq_true_eq] at h
    obtain ⟨h1, h2, h3, h4⟩ := h
    split at h4
    ·rename_i a b
     simp only [Bool.and_eq_true] at h4
     obtain ⟨x, x1, x2, x3⟩ := vx_tree d a.f0 a.f1 a.f2 h4.1
     obtain ⟨y, y1, y2, y3⟩ := vx_tree d b.f0 b.f1 b.f2 h4.2
     exact ⟨.bin op x y, ⟨⟨h1, h2⟩, x1, y1⟩, by simp only [X.depth]; omega, by rw [emb, x3, y3, h3, etaE, etaE]⟩
    ·cases h4
theorem impl_OpValid_eq (a : Int) : impl_OpValid.f a = some (decide (1 ≤ a) && decide (a ≤ 12)) := by
 unfold impl_OpValid.f
 by_cases h : a ≥ 1
 ·rw [if_pos h, decide_eq_true h, Bool.true_and]
 ·rw [if_neg h, decide_eq_false h, Bool.false_and]
theorem spec_OpValid_eq (a : Int) : spec_OpValid.f a = some (decide (1 ≤ a) && decide (a ≤ 12)) := by
 unfold spec_OpValid.f
 rw [l6In_eq]
 rfl
theorem impl_exprValid_ev : ∀ (d : Nat) (op n : Int) (l : List S32), d ≤ 1000 → EvP (fun k => impl_exprValid.f k op n l (d : Int)) (· = vx d op n l)
  | 0, op, n, l, hd => by
    refine EvP.step (fun k => impl_exprValid.f.eq_2 (k := k) ..) ?_
    refine EvP.ite (fun h => ?_) (fun h => ?_)
    · refine EvP.ite (fun _ => EvP.ite (fun _ => EvP.ite (fun _ => EvP.ret ?_) (fun _ => EvP.ret ?_)) (fun _ => EvP.ret ?_)) (fun _ => EvP.ret ?_) <;> simp [vx]
    · refine EvP.ite (fun h => ?_) (fun h => ?_)
      · refine EvP.ite (fun _ => EvP.ite (fun _ => EvP.ite (fun _ => EvP.ret ?_) (fun _ => EvP.ret ?_)) (fun _ => EvP.ret ?_)) (fun _ => EvP.ret ?_) <;> simp [vx]
      · refine EvP.bind0 (impl_OpValid_eq op) (EvP.ite (fun _ => EvP.ite (fun _ => EvP.ite (fun _ => EvP.no (by omega) (EvP.ret ?_)) (fun _ => EvP.ret ?_)) (fun _ => EvP.ret ?_)) (fun _ => EvP.ret ?_)) <;> simp [vx]
  | d + 1, op, n, l, hd => by
    refine EvP.step (fun k => impl_exprValid.f.eq_2 (k := k) ..) ?_
    unfold vx
    refine EvP.ite (fun h => ?_) (fun h => ?_)
    · rw [if_pos h]
      refine EvP.ite (fun h1 => EvP.ite (fun h2 => EvP.ite (fun h3 => EvP.ret ?_) (fun h3 => EvP.ret ?_)) (fun h2 => EvP.ret ?_)) (fun h1 => EvP.ret ?_)
      · rw [decide_eq_true (show 0 ≤ n from h1), decide_eq_true h2, decide_eq_true (show l.length = 0 by omega)]
        simp
      · rw [decide_eq_false (p := l.length = 0) (by omega)]
        simp
      · rw [decide_eq_false h2]
        simp
      · rw [decide_eq_false (p := 0 ≤ n) h1]
        simp
    · rw [if_neg h]
      refine EvP.ite (fun h => ?_) (fun h13 => ?_)
      · rw [if_pos h]
        refine EvP.ite (fun h1 => EvP.ite (fun h2 => EvP.ite (fun h3 => EvP.ret ?_) (fun h3 => EvP.ret ?_)) (fun h2 => EvP.ret ?_)) (fun h1 => EvP.ret ?_)
        · rw [decide_eq_true (show 0 ≤ n from h1), decide_eq_true h2, decide_eq_true (show l.length = 0 by omega)]
          simp
        · rw [decide_eq_false (p := l.length = 0) (by omega)]
          simp
        · rw [decide_eq_false h2]
          simp
        · rw [decide_eq_false (p := 0 ≤ n) h1]
          simp
      · rw [if_neg h13]
        refine EvP.bind0 (impl_OpValid_eq op) (EvP.ite (fun h1 => ?_) (fun h1 => EvP.ret ?_))
        · simp only [Bool.and_eq_true, decide_eq_true_eq] at h1
          rw [decide_eq_true h1.1, decide_eq_true h1.2]
          refine EvP.ite (fun h2 => ?_) (fun h2 => EvP.ret (by rw [decide_eq_false h2]; rfl))
          rw [decide_eq_true h2]
          refine EvP.ite (fun h3 => ?_) (fun h3 => EvP.ret ?_)
          · obtain ⟨a, b, rfl⟩ := two_of (show l.length = 2 by omega)
            refine EvP.ite (fun h4 => ?_) (fun h4 => EvP.ret ?_)
            · rw [w64 (by omega) (by omega), show ((d + 1 : Nat) : Int) - 1 = (d : Int) by omega, rdE_0, rdE_1]
              refine EvP.yes (by simp) (EvP.bindEq (impl_exprValid_ev d _ _ _ (by omega)) (EvP.ite (fun h5 => ?_) (fun h5 => EvP.ret ?_)))
              · refine EvP.yes (by simp) (EvP.bindEq (impl_exprValid_ev d _ _ _ (by omega)) (EvP.ret ?_))
                simp [h5]
              · simp [h5]
            · have hd0 : d = 0 := by omega
              subst hd0
              rfl
          · split
            · simp at h3
            · rfl
        · symm
          rw [Bool.eq_false_iff]
          intro e
          simp only [Bool.and_eq_true, decide_eq_true_eq] at e h1
          exact h1 ⟨e.1, e.2.1⟩
theorem spec_l4Ok_ev : ∀ (d : Nat) (op n : Int) (l : List S32), d ≤ 1000 → EvP (fun k => spec_l4Ok.f k op n l (d : Int)) (· = vx d op n l)
  | 0, op, n, l, hd => EvP.step (fun k => spec_l4Ok.f.eq_2 (k := k) ..) (EvP.yes (by omega) (EvP.ret rfl))
  | d + 1, op, n, l, hd => by
    have hlen : ((l.length : Int) == 0) = decide (l.length = 0) := by
      rw [Bool.eq_iff_iff, beq_iff_eq, decide_eq_true_eq]
      omega
    refine EvP.step (fun k => spec_l4Ok.f.eq_2 (k := k) ..) (EvP.no (by omega) ?_)
    unfold vx
    refine EvP.ite (fun h => ?_) (fun h => ?_)
    · rw [if_pos h, l6In_eq]
      refine EvP.bind0 rfl (EvP.ite (fun h1 => EvP.ret ?_) (fun h1 => EvP.ret ?_))
      · rw [hlen]
        simp only [Bool.and_eq_true, decide_eq_true_eq] at h1
        rw [decide_eq_true h1.1, decide_eq_true h1.2]
        rfl
      · rw [← Bool.and_assoc, Bool.eq_false_iff.mpr h1]
        rfl
    · rw [if_neg h]
      refine EvP.ite (fun h => ?_) (fun h13 => ?_)
      · rw [if_pos h, l6In_eq]
        have e3 : decide (n < 4) = decide (n ≤ 3) := decide_eq_decide.mpr (by omega)
        rw [e3]
        refine EvP.bind0 rfl (EvP.ite (fun h1 => EvP.ret ?_) (fun h1 => EvP.ret ?_))
        · rw [hlen]
          simp only [Bool.and_eq_true, decide_eq_true_eq] at h1
          rw [decide_eq_true h1.1, decide_eq_true h1.2]
          rfl
        · rw [← Bool.and_assoc, Bool.eq_false_iff.mpr h1]
          rfl
      · rw [if_neg h13]
        refine EvP.bind0 (spec_OpValid_eq op) (EvP.ite (fun h1 => ?_) (fun h1 => EvP.ret ?_))
        · simp only [Bool.and_eq_true, decide_eq_true_eq] at h1
          rw [decide_eq_true h1.1, decide_eq_true h1.2]
          refine EvP.ite (fun h2 => ?_) (fun h2 => EvP.ret (by rw [decide_eq_false h2]; rfl))
          rw [decide_eq_true h2]
          refine EvP.ite (fun h3 => ?_) (fun h3 => EvP.ret ?_)
          · obtain ⟨a, b, rfl⟩ := two_of (show l.length = 2 by omega)
            rw [w64 (by omega) (by omega), show ((d + 1 : Nat) : Int) - 1 = (d : Int) by omega, rdE_0, rdE_1]
            refine EvP.yes (by simp) (EvP.bindEq (spec_l4Ok_ev d _ _ _ (by omega)) (EvP.ite (fun h5 => ?_) (fun h5 => EvP.ret ?_)))
            · refine EvP.yes (by simp) (EvP.bindEq (spec_l4Ok_ev d _ _ _ (by omega)) (EvP.ret ?_))
              simp [h5]
            · simp [h5]
          · split
            · simp at h3
            · rfl
        · rw [← Bool.and_assoc, Bool.eq_false_iff.mpr h1]
          rfl
theorem spec_ExprValid_ev (op n : Int) (l : List S32) : EvP (fun k => spec_ExprValid.f k op n l) (· = vx 5 op n l) := by
  unfold spec_ExprValid.f
  exact EvP.bindEq (spec_l4Ok_ev 5 op n l (by omega)) (EvP.ret rfl)
theorem impl_ExprValid_ev (op n : Int) (l : List S32) : EvP (fun k => impl_ExprValid.f k op n l) (· = vx 5 op n l) := by
  unfold impl_ExprValid.f
  exact EvP.bindEq (impl_exprValid_ev 5 op n l (by omega)) (EvP.ret rfl)
mutual
def cS : S35 → Nat
 | ⟨_, _, _, _, b, e⟩ => cSs b + cSs e
def cSs : List S35 → Nat
 | [] => 0
 | x :: xs => cS x + 1 + cSs xs
end
theorem cS_f (x : S35) : cS x = cSs x.f4 + cSs x.f5 := by
 cases x
 rw [cS]
theorem cSs_length : ∀ l : List S35, l.length ≤ cSs l
 | [] => Nat.zero_le _
 | x :: xs => by
  have := cSs_length xs
  rw [cSs, List.length_cons]
  omega
theorem cSs_append : ∀ l m : List S35, cSs (l ++ m) = cSs l + cSs m
 | [], m => by rw [cSs]; simp
 | x :: xs, m => by
  rw [List.cons_append, cSs, cSs, cSs_append xs m]
  omega
theorem cSs_mem : ∀ (l : List S35) (x : S35), x ∈ l → cS x < cSs l
 | y :: ys, x, h => by
  rw [cSs]
  rcases List.mem_cons.1 h with rfl | h
  ·omega
  ·have := cSs_mem ys x h
   omega
theorem cSs_drop (l : List S35) (i : Nat) (h : i < l.length) : cSs (l.drop i) = cS l[i] + 1 + cSs (l.drop (i + 1)) := by
 rw [List.drop_eq_getElem_cons h, cSs]
theorem cSs_one (x : S35) : cSs [x] = cS x + 1 := by
 rw [cSs, cSs]
theorem cSs_nil : cSs [] = 0 := by rw [cSs]
theorem cSs_take_drop (l : List S35) (n : Nat) : cSs (l.take n) + cSs (l.drop n) = cSs l := by
 rw [← cSs_append, List.take_append_drop]
theorem rdS_nat (l : List S35) (i : Nat) (h : i < l.length) : rd_T35 l (i : Int) = l[i] := by
 unfold rd_T35
 rw [Int.toNat_natCast, List.getD_eq_getElem?_getD, List.getElem?_eq_getElem h]
 rfl
def varOk (use : Bool) (va : Int) : Bool := if use = true then decide (0 ≤ va) && decide (va ≤ 3) else va == 0
def boxOk (boxes : Int) (use : Bool) (bx : Int) : Bool := if use = true then decide (0 ≤ bx) && decide (bx ≤ boxes - 1) else bx == 0
def plainOk (op n : Int) (la : List S32) : Bool := op == 0 && (n == 0 && la.length == 0)
def restOk (boxes : Int) (nv nb ne nd no : Bool) (va bx op n : Int) (la : List S32) (lb le : Nat) : Bool :=
 varOk nv va && (boxOk boxes nb bx && ((if ne = true then vx 5 op n la else plainOk op n la) && ((nd || lb == 0) && (no || le == 0))))
def stOk (boxes kd va bx op n : Int) (la : List S32) (lb le : Nat) : Bool :=
 if kd = 1 then restOk boxes true false true false false va bx op n la lb le
 else if kd = 2 then restOk boxes false false true true true va bx op n la lb le
 else if kd = 3 then restOk boxes false false true true false va bx op n la lb le
 else if kd = 4 then restOk boxes false true true false false va bx op n la lb le
 else if kd = 5 then restOk boxes true true false false false va bx op n la lb le
 else if kd = 7 then restOk boxes false false true false false va bx op n la lb le
 else if kd = 6 then restOk boxes false false false false false va bx op n la lb le
 else false
def stS (boxes : Int) (s : S35) : Bool := stOk boxes s.f0 s.f1 s.f2 s.f3.f0 s.f3.f1 s.f3.f2 s.f4.length s.f5.length
def isBlk (s : S35) : Bool := s.f0 == 2 || s.f0 == 3
def okOne (boxes : Int) : Nat → S35 → Bool
 | 0, s => stS boxes s && !isBlk s
 | d + 1, s => stS boxes s && (!isBlk s || (s.f4.all (okOne boxes d) && s.f5.all (okOne boxes d)))
def okL (boxes : Int) (d : Nat) (l : List S35) : Bool := l.all (okOne boxes d)
theorem okOne_st {boxes : Int} {d : Nat} {s : S35} (h : okOne boxes d s = true) : stS boxes s = true := by
 cases d <;> (simp only [okOne, Bool.and_eq_true] at h; exact h.1)
theorem stOk_flat {boxes kd va bx op n : Int} {la : List S32} {lb le : Nat} (h : stOk boxes kd va bx op n la lb le = true) (h2 : kd ≠ 2) (h3 : kd ≠ 3) : lb = 0 ∧ le = 0 := by
 unfold stOk at h
 rw [if_neg h2, if_neg h3] at h
 repeat' split at h
 all_goals first
  | (cases h; done)
  | (simp only [restOk, Bool.and_eq_true, Bool.false_or, beq_iff_eq] at h; exact h.2.2.2)
theorem flat_cS {boxes : Int} {s : S35} (h : stS boxes s = true) (h2 : ¬ (s.f0 = 2 ∨ s.f0 = 3)) : cS s = 0 := by
 obtain ⟨h4, h5⟩ := stOk_flat h (fun e => h2 (.inl e)) (fun e => h2 (.inr e))
 rw [cS_f, List.eq_nil_of_length_eq_zero h4, List.eq_nil_of_length_eq_zero h5, cSs]
theorem isBlk_iff (s : S35) : isBlk s = true ↔ s.f0 = 2 ∨ s.f0 = 3 := by
 unfold isBlk
 simp
theorem inr_var (use : Bool) (va : Int) : inr va 4 use = varOk use va := by
 rw [Bool.eq_iff_iff]
 cases use
 ·simp [inr, varOk]
 ·simp [inr, varOk]
  omega
theorem stv_rest_ev (nv nb ne nd no : Bool) (va bx op n : Int) (la : List S32) (lb le : Nat) (boxes : Int) :
    EvP (fun k => stv_rest k nv nb ne nd no va bx op n la lb le boxes) (· = restOk boxes nv nb ne nd no va bx op n la lb le) := by
  unfold stv_rest restOk
  rw [inr_var]
  refine EvP.ite (fun h1 => ?_) (fun h1 => EvP.ret (by rw [Bool.eq_false_iff.mpr h1]; rfl))
  rw [h1, Bool.true_and]
  have hb : (inr bx boxes nb = true ∧ ¬ (nb = true ∧ boxes ≤ bx)) ↔ boxOk boxes nb bx = true := by
    cases nb
    · simp [inr, boxOk]
    · simp [inr, boxOk]
      omega
  refine EvP.ite (fun h2 => EvP.ite (fun h3 => EvP.ret ?_) (fun h3 => ?_)) (fun h2 => EvP.ret ?_)
  · have : boxOk boxes nb bx = false := Bool.eq_false_iff.mpr (fun e => (hb.mpr e).2 h3)
    rw [this]
    rfl
  · rw [hb.mp ⟨h2, h3⟩, Bool.true_and]
    refine EvP.ite (fun h4 => ?_) (fun h4 => ?_)
    · rw [if_pos h4]
      refine EvP.bindEq (impl_ExprValid_ev op n la) (EvP.ite (fun h5 => EvP.ret (by rw [h5, Bool.true_and])) (fun h5 => EvP.ret (by rw [Bool.eq_false_iff.mpr h5]; rfl)))
    · rw [if_neg h4]
      unfold plainOk
      refine EvP.ite (fun h5 => EvP.ite (fun h6 => EvP.ite (fun h7 => EvP.ret ?_) (fun h7 => EvP.ret ?_)) (fun h6 => EvP.ret ?_)) (fun h5 => EvP.ret ?_)
      · rw [beq_eq_false_iff_ne.mpr (show la.length ≠ 0 by omega)]
        simp
      · rw [h5, h6, beq_iff_eq.mpr (show la.length = 0 by omega)]
        simp
      · rw [beq_eq_false_iff_ne.mpr h6]
        simp
      · rw [beq_eq_false_iff_ne.mpr h5]
        simp
  · have : boxOk boxes nb bx = false := Bool.eq_false_iff.mpr (fun e => h2 (hb.mpr e).1)
    rw [this]
    rfl
theorem impl_stmtValid_ev (kd va bx op n : Int) (la : List S32) (lb le : Nat) (boxes : Int) :
    EvP (fun k => impl_stmtValid.f k kd va bx op n la lb le boxes) (· = stOk boxes kd va bx op n la lb le) := by
  unfold impl_stmtValid.f stOk
  have hr := fun nv nb ne nd no => stv_rest_ev nv nb ne nd no va bx op n la lb le boxes
  repeat (refine EvP.ite (fun h => ?_) (fun h => ?_); · rw [if_pos h]; exact hr _ _ _ _ _
          rw [if_neg h])
  exact EvP.ret rfl
def BlkSays (boxes : Int) (d : Nat) (l : List S35) (cnt : Int) (p : Bool × Int) : Prop :=
 p.1 = (okL boxes d l && decide (cnt + cSs l ≤ 16)) ∧ (p.1 = true → p.2 = cnt + cSs l)
theorem blockValid_l0 (boxes blocks : Int) (d : Nat) (hd : d ≤ 3) (hb : blocks = 3 - d) (l : List S35) (hl : cSs l ≤ 1000000000)
  (sub : ∀ d', d = d' + 1 → ∀ (m : List S35) (cnt : Int), cSs m ≤ 1000000000 → 0 ≤ cnt → cnt ≤ 16 → EvP (fun k => impl_blockValid.f k m boxes (wrap64 (blocks + 1)) cnt) (BlkSays boxes d' m cnt)) :
  ∀ (r j : Nat) (cnt : Int), j + r = l.length → 0 ≤ cnt → cnt ≤ 16 →
   EvP (fun k => impl_blockValid.l0 k l boxes blocks (j : Int) cnt) (fun p => p.1 = (okL boxes d (l.drop j) && decide (cnt + cSs (l.drop j) - r ≤ 16)) ∧ (p.1 = true → p.2 = cnt + cSs (l.drop j) - r)) := by
 intro r
 have hlen := cSs_length l
 induction r with
 | zero =>
  intro j cnt hj h0 h1
  refine EvP.step (fun k => impl_blockValid.l0.eq_2 (k := k) ..) (EvP.no (by omega) (EvP.ret ?_))
  rw [List.drop_eq_nil_of_le (by omega), cSs_nil]
  constructor
  ·simp [okL]
   omega
  ·intro _
   simp
 | succ r ih =>
  intro j cnt hj h0 h1
  have hlt : j < l.length := by omega
  have hc := cSs_drop l j hlt
  have hr : r ≤ cSs (l.drop (j + 1)) := by
   have := cSs_length (l.drop (j + 1))
   rw [List.length_drop] at this
   omega
  have hm := cSs_mem l _ (List.getElem_mem hlt)
  have hcs := cS_f l[j]
  have hall : okL boxes d (l.drop j) = (okOne boxes d l[j] && okL boxes d (l.drop (j + 1))) := by
   rw [List.drop_eq_getElem_cons hlt]
   rfl
  rw [hall]
  refine EvP.step (fun k => impl_blockValid.l0.eq_2 (k := k) ..) (EvP.yes (by omega) (EvP.yes (by omega) ?_))
  rw [rdS_nat l j hlt, w64 (n := (j : Int) + 1) (by omega) (by omega)]
  refine EvP.bindEq (impl_stmtValid_ev _ _ _ _ _ _ _ _ _) (EvP.ite (fun hs => ?_) (fun hs => EvP.ret ?_))
  ·have hs : stS boxes l[j] = true := hs
   refine EvP.no (by omega) (EvP.ite (fun hk => ?_) (fun hk => ?_))
   ·have hbk : isBlk l[j] = true := (isBlk_iff _).mpr hk
    cases d with
    | zero =>
     refine EvP.yes (by omega) (EvP.ret ?_)
     have : okOne boxes 0 l[j] = false := by simp [okOne, hbk]
     rw [this]
     exact ⟨rfl, fun h => by cases h⟩
    | succ d' =>
     have ho : okOne boxes (d' + 1) l[j] = (okL boxes d' l[j].f4 && okL boxes d' l[j].f5) := by
      simp only [okOne, hs, hbk, okL]
      rfl
     rw [ho]
     refine EvP.no (by omega) (EvP.bind (sub d' rfl _ cnt (by omega) h0 h1) fun p hp => ?_)
     obtain ⟨hp1, hp2⟩ := hp
     refine EvP.ite (fun hy => ?_) (fun hy => EvP.ret ?_)
     ·have e2 := hp2 hy
      rw [hy] at hp1
      have hq := hp1.symm
      rw [Bool.and_eq_true, decide_eq_true_eq] at hq
      rw [e2]
      refine EvP.bind (sub d' rfl _ _ (by omega) (by omega) hq.2) fun q hq' => ?_
      obtain ⟨hq1, hq2⟩ := hq'
      refine EvP.ite (fun hz => ?_) (fun hz => EvP.ret ?_)
      ·have e3 := hq2 hz
       rw [hz] at hq1
       have hq3 := hq1.symm
       rw [Bool.and_eq_true, decide_eq_true_eq] at hq3
       rw [e3]
       refine (ih (j + 1) _ (by omega) (by omega) hq3.2).mono fun a ha => ?_
       rw [hq.1, hq3.1, Bool.true_and, Bool.true_and]
       refine ⟨ha.1.trans ?_, fun h => (ha.2 h).trans ?_⟩
       ·congr 1
        exact decide_eq_decide.mpr (by omega)
       ·omega
      ·have hz' := Bool.eq_false_iff.mpr hz
       rw [hz'] at hq1
       refine ⟨?_, fun h => by cases h⟩
       show false = _
       symm
       rw [Bool.eq_false_iff]
       intro e
       simp only [Bool.and_eq_true, decide_eq_true_eq] at e
       have : (okL boxes d' l[j].f5 && decide (cnt + ↑(cSs l[j].f4) + ↑(cSs l[j].f5) ≤ 16)) = true := by
        rw [e.1.1.2, decide_eq_true (by omega)]
        rfl
       rw [this] at hq1
       cases hq1
     ·have hy' := Bool.eq_false_iff.mpr hy
      rw [hy'] at hp1
      refine ⟨?_, fun h => by cases h⟩
      show false = _
      symm
      rw [Bool.eq_false_iff]
      intro e
      simp only [Bool.and_eq_true, decide_eq_true_eq] at e
      have : (okL boxes d' l[j].f4 && decide (cnt + ↑(cSs l[j].f4) ≤ 16)) = true := by
       rw [e.1.1.1, decide_eq_true (by omega)]
       rfl
      rw [this] at hp1
      cases hp1
   ·have hbk : isBlk l[j] = false := Bool.eq_false_iff.mpr (fun e => hk ((isBlk_iff _).mp e))
    have ho : okOne boxes d l[j] = true := by
     cases d <;> simp [okOne, hs, hbk]
    have hz := flat_cS hs hk
    rw [ho, Bool.true_and]
    refine (ih (j + 1) cnt (by omega) h0 h1).mono fun a ha => ?_
    refine ⟨ha.1.trans ?_, fun h => (ha.2 h).trans ?_⟩
    ·congr 1
     exact decide_eq_decide.mpr (by omega)
    ·omega
  ·have hs : stS boxes l[j] = false := Bool.eq_false_iff.mpr hs
   have ho : okOne boxes d l[j] = false := Bool.eq_false_iff.mpr (fun e => by rw [okOne_st e] at hs; cases hs)
   rw [ho]
   exact ⟨rfl, fun h => by cases h⟩
theorem impl_blockValid_ev (boxes : Int) : ∀ (d : Nat) (blocks : Int) (l : List S35) (cnt : Int), d ≤ 3 → blocks = 3 - d → cSs l ≤ 1000000000 → 0 ≤ cnt → cnt ≤ 16 →
  EvP (fun k => impl_blockValid.f k l boxes blocks cnt) (BlkSays boxes d l cnt) := by
 intro d
 induction d with
 | zero =>
  intro blocks l cnt hd hb hl h0 h1
  have hlen := cSs_length l
  refine EvP.step (fun k => impl_blockValid.f.eq_2 (k := k) ..) ?_
  rw [w64 (n := cnt + (l.length : Int)) (by omega) (by omega)]
  refine EvP.ite (fun h => EvP.ret ?_) (fun h => ?_)
  ·refine ⟨?_, fun h => by cases h⟩
   rw [decide_eq_false (by omega)]
   simp
  ·refine (blockValid_l0 boxes blocks 0 hd hb l hl (fun d' e => by omega) l.length 0 _ (by omega) (by omega) (by omega)).mono fun a ha => ?_
   rw [List.drop_zero] at ha
   refine ⟨ha.1.trans ?_, fun h => (ha.2 h).trans ?_⟩
   ·congr 1
    exact decide_eq_decide.mpr (by omega)
   ·omega
 | succ d ih =>
  intro blocks l cnt hd hb hl h0 h1
  have hlen := cSs_length l
  refine EvP.step (fun k => impl_blockValid.f.eq_2 (k := k) ..) ?_
  rw [w64 (n := cnt + (l.length : Int)) (by omega) (by omega)]
  refine EvP.ite (fun h => EvP.ret ?_) (fun h => ?_)
  ·refine ⟨?_, fun h => by cases h⟩
   rw [decide_eq_false (by omega)]
   simp
  ·refine (blockValid_l0 boxes blocks (d + 1) hd hb l hl (fun d' e m cnt hm h0 h1 => ?_) l.length 0 _ (by omega) (by omega) (by omega)).mono fun a ha => ?_
   ·have e' : d = d' := by omega
    subst e'
    rw [w64 (by omega) (by omega)]
    exact ih _ m cnt (by omega) (by omega) hm h0 h1
   ·rw [List.drop_zero] at ha
    refine ⟨ha.1.trans ?_, fun h => (ha.2 h).trans ?_⟩
    ·congr 1
     exact decide_eq_decide.mpr (by omega)
    ·omega
def okT (boxes : Int) (l : List S35) : Bool := okL boxes 3 l && decide (cSs l ≤ 16)
theorem impl_stmtsValid_ev (boxes : Int) (l : List S35) (hl : cSs l ≤ 1000000000) : EvP (fun k => impl_stmtsValid.f k l boxes) (· = okT boxes l) := by
  unfold impl_stmtsValid.f
  refine EvP.bind (impl_blockValid_ev boxes 3 0 l 0 (by omega) (by omega) hl (by omega) (by omega)) fun p hp => EvP.ret ?_
  rw [hp.1]
  unfold okT
  congr 1
  exact decide_eq_decide.mpr (by omega)
theorem impl_StmtsValid_ev (l : List S35) (hl : cSs l ≤ 1000000000) : EvP (fun k => impl_StmtsValid.f k l) (· = okT 3 l) := by
  unfold impl_StmtsValid.f
  exact EvP.bindEq (impl_stmtsValid_ev 3 l hl) (EvP.ret rfl)
theorem spec_l11Var_eq (a b c d e : Int) (l : List S32) (m n : List S35) (u : Bool) : spec_l11Var.f a b c d e l m n u = some (varOk u b) := by
 unfold spec_l11Var.f varOk
 rw [l6In_eq]
 cases u <;> rfl
theorem spec_l11Box_eq (a b c d e : Int) (l : List S32) (m n : List S35) (u : Bool) : spec_l11Box.f a b c d e l m n u = some (boxOk 3 u c) := by
 unfold spec_l11Box.f boxOk
 rw [l6In_eq]
 cases u <;> rfl
theorem spec_l11Plain_eq (op n : Int) (l : List S32) : spec_l11Plain.f op n l = some (plainOk op n l) := by
 unfold spec_l11Plain.f plainOk
 have hlen : ((l.length : Int) == 0) = (l.length == 0) := by
  rw [Bool.eq_iff_iff, beq_iff_eq, beq_iff_eq]
  omega
 by_cases h : op = 0
 ·rw [if_pos h, h]
  by_cases h2 : n = 0
  ·rw [if_pos h2, h2, hlen]
   rfl
  ·rw [if_neg h2, beq_eq_false_iff_ne.mpr h2]
   rfl
 ·rw [if_neg h, beq_eq_false_iff_ne.mpr h]
  rfl
theorem spec_l11Simple_ev (kd va bx op n : Int) (la : List S32) (m1 m2 : List S35) (h2 : kd ≠ 2) (h3 : kd ≠ 3) :
    EvP (fun k => spec_l11Simple.f k kd va bx op n la m1 m2) (· = stOk 3 kd va bx op n la m1.length m2.length) := by
  unfold spec_l11Simple.f
  have yes : ∀ b : Bool, ((m1.length == 0 && m2.length == 0) = !b) → EvP (fun k => spec_l11Simple.j0 k b kd va bx op n la m1 m2) (· = stOk 3 kd va bx op n la m1.length m2.length) := by
    intro b hb
    refine EvP.step (fun k => spec_l11Simple.j0.eq_2 (k := k) ..) ?_
    refine EvP.ite (fun h => EvP.ret ?_) (fun h => ?_)
    · symm
      rw [Bool.eq_false_iff]
      intro e
      obtain ⟨z1, z2⟩ := stOk_flat e h2 h3
      rw [z1, z2, h] at hb
      cases hb
    · have hb' : (m1.length == 0 && m2.length == 0) = true := by
        rw [hb, Bool.eq_false_iff.mpr h]
        rfl
      unfold stOk
      have hT : ∀ a b c : Bool, (a && (b && (c && ((false || m1.length == 0) && (false || m2.length == 0))))) = (a && (b && c)) := by
        intro a b c
        rw [Bool.false_or, Bool.false_or, hb', Bool.and_true]
      refine EvP.ite (fun h1 => ?_) (fun h1 => ?_)
      · rw [if_pos h1]
        unfold restOk
        rw [hT]
        refine EvP.bind0 (spec_l11Var_eq ..) (EvP.ite (fun hv => EvP.bind0 (spec_l11Box_eq ..) (EvP.ite (fun hx => EvP.bindEq (spec_ExprValid_ev ..) (EvP.ret ?_)) (fun hx => EvP.ret ?_))) (fun hv => EvP.ret ?_)) <;> simp [*]
      · rw [if_neg h1, if_neg h2, if_neg h3]
        refine EvP.ite (fun h1 => ?_) (fun h1 => ?_)
        · rw [if_pos h1]
          unfold restOk
          rw [hT]
          refine EvP.bind0 (spec_l11Var_eq ..) (EvP.ite (fun hv => EvP.bind0 (spec_l11Box_eq ..) (EvP.ite (fun hx => EvP.bindEq (spec_ExprValid_ev ..) (EvP.ret ?_)) (fun hx => EvP.ret ?_))) (fun hv => EvP.ret ?_)) <;> simp [*]
        · rw [if_neg h1]
          refine EvP.ite (fun h1 => ?_) (fun h1 => ?_)
          · rw [if_pos h1]
            unfold restOk
            rw [hT]
            refine EvP.bind0 (spec_l11Var_eq ..) (EvP.ite (fun hv => EvP.bind0 (spec_l11Box_eq ..) (EvP.ite (fun hx => EvP.bind0 (spec_l11Plain_eq ..) (EvP.ret ?_)) (fun hx => EvP.ret ?_))) (fun hv => EvP.ret ?_)) <;> simp [*]
          · rw [if_neg h1]
            refine EvP.ite (fun h6 => ?_) (fun h6 => ?_)
            · rw [if_neg (by omega), if_pos h6]
              unfold restOk
              rw [hT]
              refine EvP.bind0 (spec_l11Var_eq ..) (EvP.ite (fun hv => EvP.bind0 (spec_l11Box_eq ..) (EvP.ite (fun hx => EvP.bind0 (spec_l11Plain_eq ..) (EvP.ret ?_)) (fun hx => EvP.ret ?_))) (fun hv => EvP.ret ?_)) <;> simp [*]
            · refine EvP.ite (fun h7 => ?_) (fun h7 => ?_)
              · rw [if_pos h7]
                unfold restOk
                rw [hT]
                refine EvP.bind0 (spec_l11Var_eq ..) (EvP.ite (fun hv => EvP.bind0 (spec_l11Box_eq ..) (EvP.ite (fun hx => EvP.bindEq (spec_ExprValid_ev ..) (EvP.ret ?_)) (fun hx => EvP.ret ?_))) (fun hv => EvP.ret ?_)) <;> simp [*]
              · rw [if_neg h7, if_neg h6]
                exact EvP.ret rfl
  refine EvP.ite (fun h => yes true ?_) (fun h => yes _ ?_)
  · rw [beq_eq_false_iff_ne.mpr (show m1.length ≠ 0 by omega)]
    rfl
  · rw [beq_iff_eq.mpr (show m1.length = 0 by omega), Bool.true_and, ← decide_not, Bool.eq_iff_iff, beq_iff_eq, decide_eq_true_eq]
    omega
theorem spec_l11Blocks_l0 (l : List S35) (hl : l.length ≤ 1000000000) (x1 : Int) (d : Nat) (sub : ∀ x ∈ l, EvP (fun k => spec_l11Ok.f k x.f0 x.f1 x.f2 x.f3.f0 x.f3.f1 x.f3.f2 x.f4 x.f5 x1) (· = okOne 3 d x)) :
    ∀ (r j : Nat), j + r = l.length → EvP (fun k => spec_l11Blocks.l0 k l x1 (j : Int)) (· = okL 3 d (l.drop j)) := by
  intro r
  induction r with
  | zero =>
    intro j hj
    refine EvP.step (fun k => spec_l11Blocks.l0.eq_2 (k := k) ..) (EvP.no (by omega) (EvP.ret ?_))
    rw [List.drop_eq_nil_of_le (by omega)]
    rfl
  | succ r ih =>
    intro j hj
    have hlt : j < l.length := by omega
    refine EvP.step (fun k => spec_l11Blocks.l0.eq_2 (k := k) ..) (EvP.yes (by omega) (EvP.yes (by omega) ?_))
    rw [rdS_nat l j hlt, w64 (n := (j : Int) + 1) (by omega) (by omega)]
    have hall : okL 3 d (l.drop j) = (okOne 3 d l[j] && okL 3 d (l.drop (j + 1))) := by
      rw [List.drop_eq_getElem_cons hlt]
      rfl
    rw [hall]
    refine EvP.bindEq (sub _ (List.getElem_mem hlt)) (EvP.ite (fun h => ?_) (fun h => EvP.ret ?_))
    · rw [h, Bool.true_and]
      exact ih (j + 1) (by omega)
    · rw [Bool.eq_false_iff.mpr h]
      rfl
theorem spec_l11Blocks_of (l : List S35) (hl : l.length ≤ 1000000000) (x1 : Int) (d : Nat) (sub : ∀ x ∈ l, EvP (fun k => spec_l11Ok.f k x.f0 x.f1 x.f2 x.f3.f0 x.f3.f1 x.f3.f2 x.f4 x.f5 x1) (· = okOne 3 d x)) :
    EvP (fun k => spec_l11Blocks.f k l x1) (· = okL 3 d l) :=
  EvP.step (fun k => spec_l11Blocks.f.eq_2 (k := k) ..) (spec_l11Blocks_l0 l hl x1 d sub l.length 0 (by omega))
theorem spec_l11Ok_ev : ∀ (d : Nat) (x1 : Int) (x : S35), d ≤ 3 → x1 = d → cS x ≤ 1000000000 → EvP (fun k => spec_l11Ok.f k x.f0 x.f1 x.f2 x.f3.f0 x.f3.f1 x.f3.f2 x.f4 x.f5 x1) (· = okOne 3 d x) := by
  intro d
  induction d with
  | zero =>
    intro x1 x hd h1 hc
    have j1 : EvP (fun k => spec_l11Ok.j1 k x1 true x.f0 x.f1 x.f2 x.f3.f0 x.f3.f1 x.f3.f2 x.f4 x.f5) (· = false) :=
      EvP.step (fun k => spec_l11Ok.j1.eq_2 (k := k) ..) (EvP.yes rfl (EvP.ret rfl))
    refine EvP.step (fun k => spec_l11Ok.f.eq_2 (k := k) ..) (EvP.ite (fun h2 => ?_) (fun h2 => ?_))
    · have : okOne 3 0 x = false := by simp [okOne, isBlk, h2]
      rw [this]
      refine EvP.step (fun k => spec_l11Ok.j0.eq_2 (k := k) ..) (EvP.no Bool.false_ne_true (EvP.yes (by omega) j1))
    · refine EvP.step (fun k => spec_l11Ok.j0.eq_2 (k := k) ..) (EvP.ite (fun h3 => ?_) (fun h3 => EvP.yes (by omega) ?_))
      · have h3 : x.f0 ≠ 3 := bne_iff_ne.mp h3
        refine EvP.bindEq (spec_l11Simple_ev _ _ _ _ _ _ _ _ h2 h3) (EvP.ret ?_)
        simp [okOne, isBlk, h2, h3, stS]
      · have h3 : x.f0 = 3 := by simpa using h3
        have : okOne 3 0 x = false := by simp [okOne, isBlk, h3]
        rw [this]
        exact j1
  | succ d ih =>
    intro x1 x hd h1 hc
    have hcs := cS_f x
    have e1 : wrap64 (x1 - 1) = (d : Int) := by
      rw [w64 (by omega) (by omega)]
      omega
    have len4 := cSs_length x.f4
    have len5 := cSs_length x.f5
    have sub : ∀ m : List S35, cSs m ≤ 1000000000 → EvP (fun k => spec_l11Blocks.f k m (wrap64 (x1 - 1))) (· = okL 3 d m) := by
      intro m hm
      have := cSs_length m
      refine spec_l11Blocks_of m (by omega) _ d (fun y hy => ih _ y (by omega) e1 ?_)
      have := cSs_mem m y hy
      omega
    have j1 : ∀ b : Bool, isBlk x = true → (b = (x.f0 == 3 && decide ((x.f5.length : Int) > 0))) → EvP (fun k => spec_l11Ok.j1 k x1 b x.f0 x.f1 x.f2 x.f3.f0 x.f3.f1 x.f3.f2 x.f4 x.f5) (· = okOne 3 (d + 1) x) := by
      intro b hb hbb
      have ho : okOne 3 (d + 1) x = (stS 3 x && (okL 3 d x.f4 && okL 3 d x.f5)) := by
        simp only [okOne, hb, okL]
        rfl
      rw [ho]
      refine EvP.step (fun k => spec_l11Ok.j1.eq_2 (k := k) ..) (EvP.ite (fun h => EvP.ret ?_) (fun h => ?_))
      · rw [h] at hbb
        have h4 := hbb.symm
        simp only [Bool.and_eq_true, beq_iff_eq, decide_eq_true_eq] at h4
        have : stS 3 x = false := by
          have hne : (x.f5.length == 0) = false := beq_eq_false_iff_ne.mpr (by omega)
          simp [stS, stOk, h4.1, restOk, hne]
        rw [this]
        rfl
      · have hst : stS 3 x = (varOk false x.f1 && (boxOk 3 false x.f2 && vx 5 x.f3.f0 x.f3.f1 x.f3.f2)) := by
          rcases (isBlk_iff x).mp hb with h2 | h2
          · simp [stS, stOk, h2, restOk]
          · have h5 : x.f5.length = 0 := by
              rw [Bool.eq_false_iff.mpr h, h2] at hbb
              have := hbb.symm
              simp only [beq_self_eq_true, Bool.true_and, decide_eq_false_iff_not] at this
              omega
            simp [stS, stOk, h2, restOk, h5]
        rw [hst]
        refine EvP.bind0 (spec_l11Var_eq ..) (EvP.ite (fun hv => EvP.bind0 (spec_l11Box_eq ..) (EvP.ite (fun hx => EvP.bindEq (spec_ExprValid_ev ..) (EvP.ite (fun he => ?_) (fun he => EvP.ret ?_))) (fun hx => EvP.ret ?_))) (fun hv => EvP.ret ?_))
        · refine EvP.bindEq (sub x.f4 (by omega)) (EvP.ite (fun h4 => EvP.bindEq (sub x.f5 (by omega)) (EvP.ret ?_)) (fun h4 => EvP.ret ?_)) <;> simp [*]
        all_goals simp [*]
    refine EvP.step (fun k => spec_l11Ok.f.eq_2 (k := k) ..) (EvP.ite (fun h2 => ?_) (fun h2 => ?_))
    · refine EvP.step (fun k => spec_l11Ok.j0.eq_2 (k := k) ..) (EvP.no Bool.false_ne_true (EvP.no (by omega) (EvP.no (by omega) (j1 false ?_ ?_))))
      · simp [isBlk, h2]
      · simp [h2]
    · refine EvP.step (fun k => spec_l11Ok.j0.eq_2 (k := k) ..) (EvP.ite (fun h3 => ?_) (fun h3 => EvP.no (by omega) ?_))
      · have h3 : x.f0 ≠ 3 := bne_iff_ne.mp h3
        refine EvP.bindEq (spec_l11Simple_ev _ _ _ _ _ _ _ _ h2 h3) (EvP.ret ?_)
        simp [okOne, isBlk, h2, h3, stS]
      · have h3 : x.f0 = 3 := by simpa using h3
        refine EvP.yes h3 (j1 _ ?_ ?_)
        · simp [isBlk, h3]
        · simp [h3]
theorem spec_l11Blocks_ev (l : List S35) (hl : cSs l ≤ 1000000000) : EvP (fun k => spec_l11Blocks.f k l 3) (· = okL 3 3 l) := by
  have := cSs_length l
  refine spec_l11Blocks_of l (by omega) _ 3 (fun y hy => spec_l11Ok_ev 3 3 y (by omega) (by omega) ?_)
  have := cSs_mem l y hy
  omega
theorem spec_l11Count_ev : ∀ (c : Nat) (l : List S35), cSs l ≤ c → c ≤ 1000000000 → EvP (fun k => spec_l11Count.f k l) (· = (cSs l : Int)) := by
  intro c
  induction c with
  | zero =>
    intro l hl hc
    have := cSs_length l
    refine EvP.step (fun k => spec_l11Count.f.eq_2 (k := k) ..) (EvP.step (fun k => spec_l11Count.l0.eq_2 (k := k) ..) (EvP.no (by omega) (EvP.ret ?_)))
    omega
  | succ c ih =>
    intro l hl hc
    have hlen := cSs_length l
    have loop : ∀ (r j : Nat) (a : Int), j + r = l.length → 0 ≤ a → a + cSs (l.drop j) ≤ 1000000000 → EvP (fun k => spec_l11Count.l0 k l a (j : Int)) (· = a + cSs (l.drop j)) := by
      intro r
      induction r with
      | zero =>
        intro j a hj h0 h1
        refine EvP.step (fun k => spec_l11Count.l0.eq_2 (k := k) ..) (EvP.no (by omega) (EvP.ret ?_))
        rw [List.drop_eq_nil_of_le (by omega), cSs_nil]
        omega
      | succ r ih2 =>
        intro j a hj h0 h1
        have hlt : j < l.length := by omega
        have hd := cSs_drop l j hlt
        have hm := cSs_mem l _ (List.getElem_mem hlt)
        have hcs := cS_f l[j]
        refine EvP.step (fun k => spec_l11Count.l0.eq_2 (k := k) ..) (EvP.yes (by omega) (EvP.yes (by omega) ?_))
        rw [rdS_nat l j hlt, w64 (n := (j : Int) + 1) (by omega) (by omega)]
        refine EvP.bindEq (ih _ (by omega) (by omega)) (EvP.bindEq (ih _ (by omega) (by omega)) ?_)
        rw [w64 (n := a + 1) (by omega) (by omega), w64 (n := a + 1 + (cSs l[j].f4 : Int)) (by omega) (by omega), w64 (by omega) (by omega)]
        refine (ih2 (j + 1) _ (by omega) (by omega) (by omega)).mono fun b hb => ?_
        omega
    refine EvP.step (fun k => spec_l11Count.f.eq_2 (k := k) ..) ((loop l.length 0 0 (by omega) (by omega) (by rw [List.drop_zero]; omega)).mono fun b hb => ?_)
    rw [List.drop_zero] at hb
    omega
theorem spec_StmtsValid_ev (l : List S35) (hl : cSs l ≤ 1000000000) : EvP (fun k => spec_StmtsValid.f k l) (· = okT 3 l) := by
  unfold spec_StmtsValid.f okT
  refine EvP.bindEq (spec_l11Blocks_ev l hl) (EvP.ite (fun h => EvP.bindEq (spec_l11Count_ev _ l hl (by omega)) (EvP.ret ?_)) (fun h => EvP.ret ?_))
  · rw [h, Bool.true_and]
    exact decide_eq_decide.mpr (by omega)
  · rw [Bool.eq_false_iff.mpr h]
    rfl
theorem okT_iff {boxes : Int} {l : List S35} : okT boxes l = true ↔ okL boxes 3 l = true ∧ cSs l ≤ 16 := by
 unfold okT
 rw [Bool.and_eq_true, decide_eq_true_eq]
end Go.Proofs.Ytodhbeeibagiaaa.PA

namespace Go.Proofs.Ytodhbeeibagiaaa.PA
open Go.RowKit Go.Proofs.YtodhbeeibagiaaaW.PrintWords Go.Proofs.YtodhbeeibagiaaaW.PrintMore Go.Proofs.Ytodhbeeibagiaaa.Core
theorem etaS (a : S35) : (⟨a.f0, a.f1, a.f2, a.f3, a.f4, a.f5⟩ : S35) = a := by
 cases a
 rfl
inductive ST where
 | mk (kd va bx : Int) (x : X) (b e : List ST)
namespace ST
def kd : ST → Int | ⟨a, _, _, _, _, _⟩ => a
def va : ST → Int | ⟨_, a, _, _, _, _⟩ => a
def bx : ST → Int | ⟨_, _, a, _, _, _⟩ => a
def x : ST → X | ⟨_, _, _, a, _, _⟩ => a
def b : ST → List ST | ⟨_, _, _, _, a, _⟩ => a
def e : ST → List ST | ⟨_, _, _, _, _, a⟩ => a
end ST
mutual
def embT : ST → S35
 | ⟨kd, va, bx, x, b, e⟩ => ⟨kd, va, bx, emb x, embTs b, embTs e⟩
def embTs : List ST → List S35
 | [] => []
 | s :: ss => embT s :: embTs ss
end
def pickT (kd va bx : Int) (x : X) (b e : List ST) : List ST :=
 if kd = 2 then (match x with
  | .num n => if n = 0 then e else b
  | y => [⟨kd, va, bx, y, b, e⟩])
 else if kd = 3 then (match x with
  | .num n => if n = 0 then [] else [⟨kd, va, bx, .num n, b, e⟩]
  | y => [⟨kd, va, bx, y, b, e⟩])
 else [⟨kd, va, bx, x, b, e⟩]
mutual
def foldT : ST → List ST
 | ⟨kd, va, bx, x, b, e⟩ => pickT kd va bx x.fold (foldTs b) (foldTs e)
def foldTs : List ST → List ST
 | [] => []
 | s :: ss => foldT s ++ foldTs ss
end
theorem embT_f (t : ST) : embT t = ⟨t.kd, t.va, t.bx, emb t.x, embTs t.b, embTs t.e⟩ := by
 cases t
 rw [embT]
 rfl
theorem foldT_f (t : ST) : foldT t = pickT t.kd t.va t.bx t.x.fold (foldTs t.b) (foldTs t.e) := by
 cases t
 rw [foldT]
 rfl
theorem embTs_length : ∀ l : List ST, (embTs l).length = l.length
 | [] => by rw [embTs]; rfl
 | x :: xs => by rw [embTs, List.length_cons, List.length_cons, embTs_length xs]
theorem embTs_append : ∀ l m : List ST, embTs (l ++ m) = embTs l ++ embTs m
 | [], m => by rw [embTs]; rfl
 | x :: xs, m => by rw [List.cons_append, embTs, embTs, embTs_append xs m]; rfl
theorem embTs_get : ∀ (l : List ST) (i : Nat) (h : i < l.length), (embTs l)[i]'(by rw [embTs_length]; exact h) = embT l[i]
 | x :: xs, 0, _ => by simp [embTs]
 | x :: xs, i + 1, h => by
  have h2 := embTs_get xs i (by simpa using h)
  simp only [embTs, List.getElem_cons_succ]
  exact h2
theorem ind_ST {P : ST → Prop} (h : ∀ t : ST, (∀ y ∈ t.b, P y) → (∀ y ∈ t.e, P y) → P t) (t : ST) : P t :=
 @ST.rec (motive_1 := P) (motive_2 := fun l => ∀ y ∈ l, P y) (fun a b c d m n i1 i2 => h ⟨a, b, c, d, m, n⟩ i1 i2) (fun y hy => by simp at hy) (fun y ys h1 h2 z hz => by
  rcases List.mem_cons.1 hz with rfl | hz
  ·exact h1
  ·exact h2 z hz) t
inductive AX : ST → Prop
 | mk (t : ST) (h1 : t.x.ok) (h2 : t.x.depth ≤ 5) (hb : ∀ y ∈ t.b, AX y) (he : ∀ y ∈ t.e, AX y) : AX t
theorem of_okOne (boxes : Int) : ∀ (d : Nat) (s : S35), okOne boxes d s = true → ∃ t, embT t = s ∧ AX t := by
 have ex : ∀ s : S35, stS boxes s = true → ∃ x : X, emb x = s.f3 ∧ x.ok ∧ x.depth ≤ 5 := by
  intro s h
  have hv : vx 5 s.f3.f0 s.f3.f1 s.f3.f2 = true ∨ plainOk s.f3.f0 s.f3.f1 s.f3.f2 = true := by
   unfold stS stOk restOk at h
   repeat' split at h
   all_goals first
    | (cases h; done)
    | (simp only [Bool.and_eq_true] at h; first | exact .inl h.2.2.1 | exact .inr h.2.2.1)
    | skip
   all_goals simp_all
  rcases hv with hv | hv
  ·obtain ⟨x, h1, h2, h3⟩ := vx_tree 5 _ _ _ hv
   exact ⟨x, h3.trans (etaE _), h1, h2⟩
  ·unfold plainOk at hv
   simp only [Bool.and_eq_true, beq_iff_eq] at hv
   refine ⟨.num 0, ?_, ⟨by omega, by omega⟩, by simp [X.depth]⟩
   rw [emb, ← etaE s.f3, hv.1, hv.2.1, List.eq_nil_of_length_eq_zero hv.2.2]
 have mk : ∀ (s : S35), stS boxes s = true → (∃ l, embTs l = s.f4 ∧ ∀ y ∈ l, AX y) → (∃ l, embTs l = s.f5 ∧ ∀ y ∈ l, AX y) → ∃ t, embT t = s ∧ AX t := by
  rintro s h ⟨l, h4, a4⟩ ⟨m, h5, a5⟩
  obtain ⟨x, hx, hok, hd⟩ := ex s h
  refine ⟨⟨s.f0, s.f1, s.f2, x, l, m⟩, ?_, .mk _ hok hd a4 a5⟩
  rw [embT, hx, h4, h5]
  exact etaS s
 have nils : ∀ s : S35, stS boxes s = true → isBlk s = false → (∃ l, embTs l = s.f4 ∧ ∀ y ∈ l, AX y) ∧ (∃ l, embTs l = s.f5 ∧ ∀ y ∈ l, AX y) := by
  intro s h hb
  have hf := flat_cS h (fun e => by rw [(isBlk_iff s).mpr e] at hb; cases hb)
  rw [cS_f] at hf
  have l4 := cSs_length s.f4
  have l5 := cSs_length s.f5
  rw [List.eq_nil_of_length_eq_zero (show s.f4.length = 0 by omega), List.eq_nil_of_length_eq_zero (show s.f5.length = 0 by omega)]
  exact ⟨⟨[], by rw [embTs], by simp⟩, ⟨[], by rw [embTs], by simp⟩⟩
 intro d
 induction d with
 | zero =>
  intro s h
  simp only [okOne, Bool.and_eq_true] at h
  obtain ⟨n4, n5⟩ := nils s h.1 (by simpa using h.2)
  exact mk s h.1 n4 n5
 | succ d ih =>
  intro s h
  have lists : ∀ l : List S35, l.all (okOne boxes d) = true → ∃ m, embTs m = l ∧ ∀ y ∈ m, AX y := by
   intro l
   induction l with
   | nil => exact fun _ => ⟨[], by rw [embTs], by simp⟩
   | cons y ys ihl =>
    intro h
    rw [List.all_cons, Bool.and_eq_true] at h
    obtain ⟨t, ht, at_⟩ := ih y h.1
    obtain ⟨m, hm, am⟩ := ihl h.2
    refine ⟨t :: m, by rw [embTs, ht, hm], fun z hz => ?_⟩
    rcases List.mem_cons.1 hz with rfl | hz
    ·exact at_
    ·exact am z hz
  simp only [okOne, Bool.and_eq_true, Bool.or_eq_true] at h
  cases hb : isBlk s with
  | false =>
   obtain ⟨n4, n5⟩ := nils s h.1 hb
   exact mk s h.1 n4 n5
  | true =>
   rw [hb] at h
   rcases h.2 with h2 | h2
   ·cases h2
   ·exact mk s h.1 (lists _ h2.1) (lists _ h2.2)
theorem of_okL (boxes : Int) (d : Nat) : ∀ l : List S35, okL boxes d l = true → ∃ m, embTs m = l ∧ ∀ y ∈ m, AX y
 | [], _ => ⟨[], by rw [embTs], by simp⟩
 | y :: ys, h => by
  have h' : (okOne boxes d y && okL boxes d ys) = true := h
  rw [Bool.and_eq_true] at h'
  obtain ⟨t, ht, at_⟩ := of_okOne boxes d y h'.1
  obtain ⟨m, hm, am⟩ := of_okL boxes d ys h'.2
  refine ⟨t :: m, by rw [embTs, ht, hm], fun z hz => ?_⟩
  rcases List.mem_cons.1 hz with rfl | hz
  ·exact at_
  ·exact am z hz
theorem pickT_cases (kd va bx : Int) (x : X) (b e : List ST) : (pickT kd va bx x b e = b ∧ kd = 2) ∨ (pickT kd va bx x b e = e ∧ kd = 2) ∨ pickT kd va bx x b e = [] ∨ (pickT kd va bx x b e = [⟨kd, va, bx, x, b, e⟩] ∧ ¬ (kd = 2 ∧ x.isNum = true) ∧ ¬ (kd = 3 ∧ x = .num 0)) := by
 unfold pickT
 by_cases h2 : kd = 2
 ·rw [if_pos h2]
  cases x with
  | num n =>
   dsimp only
   by_cases h : n = 0
   ·rw [if_pos h]
    exact .inr (.inl ⟨rfl, h2⟩)
   ·rw [if_neg h]
    exact .inl ⟨rfl, h2⟩
  | var v => exact .inr (.inr (.inr ⟨rfl, by simp [X.isNum], by simp⟩))
  | bin o p q => exact .inr (.inr (.inr ⟨rfl, by simp [X.isNum], by simp⟩))
 ·rw [if_neg h2]
  by_cases h3 : kd = 3
  ·rw [if_pos h3]
   cases x with
   | num n =>
    dsimp only
    by_cases h : n = 0
    ·rw [if_pos h]
     exact .inr (.inr (.inl rfl))
    ·rw [if_neg h]
     exact .inr (.inr (.inr ⟨rfl, by simp [h2], by simp [h]⟩))
   | var v => exact .inr (.inr (.inr ⟨rfl, by simp [h2], by simp⟩))
   | bin o p q => exact .inr (.inr (.inr ⟨rfl, by simp [h2], by simp⟩))
  ·rw [if_neg h3]
   exact .inr (.inr (.inr ⟨rfl, by simp [h2], by simp [h3]⟩))
def cT (l : List ST) : Nat := cSs (embTs l)
theorem cT_append (l m : List ST) : cT (l ++ m) = cT l + cT m := by
 unfold cT
 rw [embTs_append, cSs_append]
theorem cT_one (t : ST) : cT [t] = cT t.b + cT t.e + 1 := by
 unfold cT
 rw [embTs, embTs, cSs_one, embT_f, cS_f]
theorem cT_cons (t : ST) (l : List ST) : cT (t :: l) = cT t.b + cT t.e + 1 + cT l := by
 rw [show t :: l = [t] ++ l from rfl, cT_append, cT_one]
theorem cT_nil : cT [] = 0 := by
 unfold cT
 rw [embTs, cSs]
theorem cT_foldTs_of (l : List ST) (h : ∀ y ∈ l, cT (foldT y) ≤ cT [y]) : cT (foldTs l) ≤ cT l := by
 induction l with
 | nil => rw [foldTs]; exact Nat.le_refl _
 | cons y ys ih =>
  have h1 := h y List.mem_cons_self
  have h2 := ih (fun z hz => h z (List.mem_cons_of_mem _ hz))
  rw [foldTs, cT_append, cT_cons]
  rw [cT_one] at h1
  omega
theorem cT_foldT (t : ST) : cT (foldT t) ≤ cT [t] := by
 refine ind_ST (P := fun t => cT (foldT t) ≤ cT [t]) (fun t i1 i2 => ?_) t
 have h1 := cT_foldTs_of t.b i1
 have h2 := cT_foldTs_of t.e i2
 rw [foldT_f, cT_one]
 rcases pickT_cases t.kd t.va t.bx t.x.fold (foldTs t.b) (foldTs t.e) with ⟨h, _⟩ | ⟨h, _⟩ | h | ⟨h, _⟩
 ·rw [h]; omega
 ·rw [h]; omega
 ·rw [h, cT_nil]; omega
 ·rw [h, cT_one]
  show cT (foldTs t.b) + cT (foldTs t.e) + 1 ≤ _
  omega
theorem cT_foldTs (l : List ST) : cT (foldTs l) ≤ cT l := cT_foldTs_of l (fun y _ => cT_foldT y)
end Go.Proofs.Ytodhbeeibagiaaa.PA

namespace Go.Proofs.Ytodhbeeibagiaaa.PA
open Go.RowKit Go.Proofs.YtodhbeeibagiaaaW.PrintWords Go.Proofs.YtodhbeeibagiaaaW.PrintMore Go.Proofs.Ytodhbeeibagiaaa.Core
def tri (e : S32) : Int × Int × List S32 := (e.f0, e.f1, e.f2)
theorem impl_Wrap_eq (a : Int) : impl_Wrap.f a = some (wrap32 a) := by
 unfold impl_Wrap.f
 rw [w64_w32]
theorem spec_Wrap_eq (a : Int) : spec_Wrap.f a = some (wrap32 a) := by
 have ht : Int.tmod a 4294967296 = a % 4294967296 ∨ (a < 0 ∧ Int.tmod a 4294967296 = -((-a) % 4294967296)) := by
  rcases Int.le_total 0 a with h | h
  ·exact .inl (Int.tmod_eq_emod_of_nonneg h)
  ·by_cases h0 : a = 0
   ·subst h0
    exact .inl rfl
   ·refine .inr ⟨by omega, ?_⟩
    rw [← Int.tmod_eq_emod_of_nonneg (show 0 ≤ -a by omega), Int.neg_tmod, Int.neg_neg]
 unfold spec_Wrap.f
 generalize Int.tmod a 4294967296 = m at ht ⊢
 unfold wrap32
 by_cases h1 : m > 2147483647
 ·rw [if_pos h1, w64 (by omega) (by omega)]
  congr 1
  omega
 ·by_cases h2 : m < -2147483648
  ·rw [if_neg h1, if_pos h2, w64 (by omega) (by omega)]
   congr 1
   omega
  ·rw [if_neg h1, if_neg h2]
   congr 1
   omega
theorem impl_truth_eq (b : Bool) : impl_truth.f b = some (if b = true then 1 else 0) := by
 unfold impl_truth.f
 cases b <;> rfl
theorem spec_l2Flag_eq (b : Bool) : spec_l2Flag.f b = some (if b = true then 1 else 0) := by
 unfold spec_l2Flag.f
 cases b <;> rfl
theorem impl_apply_eq (op a b : Int) : impl_apply.f op a b = some (ap op a b) := by
 unfold impl_apply.f ap
 have hs := and31 b
 by_cases h1 : op = 1
 ·rw [if_pos h1, if_pos h1]
 rw [if_neg h1, if_neg h1]
 by_cases h2 : op = 2
 ·rw [if_pos h2, if_pos h2]
 rw [if_neg h2, if_neg h2]
 by_cases h3 : op = 3
 ·rw [if_pos h3, if_pos h3]
 rw [if_neg h3, if_neg h3]
 by_cases h4 : op = 4
 ·rw [if_pos h4, if_pos h4, impl_truth_eq]
  simp
 rw [if_neg h4, if_neg h4]
 by_cases h5 : op = 5
 ·rw [if_pos h5, if_pos h5, impl_truth_eq]
  simp
 rw [if_neg h5, if_neg h5]
 by_cases h6 : op = 6
 ·rw [if_pos h6, if_pos h6, if_pos hs.1, impl_Wrap_eq, Option.bind_some]
 rw [if_neg h6, if_neg h6]
 by_cases h7 : op = 7
 ·rw [if_pos h7, if_pos h7, if_pos hs.1]
 rw [if_neg h7, if_neg h7]
 by_cases h8 : op = 8
 ·rw [if_pos h8, if_pos h8, impl_Wrap_eq, Option.bind_some, w32_w64]
 rw [if_neg h8, if_neg h8]
 by_cases h9 : op = 9
 ·rw [if_pos h9, if_pos h9, impl_Wrap_eq, Option.bind_some, w32_w64]
 rw [if_neg h9, if_neg h9]
 by_cases h10 : op = 10
 ·rw [if_pos h10, if_pos h10, impl_Wrap_eq, Option.bind_some, w32_w64]
 rw [if_neg h10, if_neg h10]
 by_cases h11 : op = 11
 ·rw [if_pos h11, if_pos h11]
  by_cases hb : b = 0
  ·rw [if_pos hb, if_pos hb]
  ·rw [if_neg hb, if_neg hb, impl_Wrap_eq, Option.bind_some, w32_w64]
 rw [if_neg h11, if_neg h11]
 by_cases hb : b = 0
 ·rw [if_pos hb, if_pos hb]
 ·rw [if_neg hb, if_neg hb]
theorem spec_Apply_ev (op a b : Int) (ho : 1 ≤ op ∧ op ≤ 12) (ha : vw a = true) (hb : vw b = true) : EvP (fun k => spec_Apply.f k op a b) (· = (ap op a b, true)) := by
  have hs := and31 b
  unfold spec_Apply.f ap
  refine EvP.bind0 (spec_OpValid_eq op) (EvP.yes (by simp; exact ho) (EvP.bind0 (spec_WordValid_eq a) (EvP.yes ha (EvP.bind0 (spec_WordValid_eq b) ?_))))
  rw [hb]
  refine EvP.step (fun k => spec_Apply.j0.eq_2 (k := k) ..) (EvP.no (by simp) ?_)
  refine EvP.ite (fun h => EvP.ret (by rw [if_pos h])) (fun h => ?_)
  rw [if_neg h]
  refine EvP.ite (fun h => EvP.ret (by rw [if_pos h])) (fun h => ?_)
  rw [if_neg h]
  refine EvP.ite (fun h => EvP.ret (by rw [if_pos h])) (fun h => ?_)
  rw [if_neg h]
  refine EvP.ite (fun h => EvP.bind0 (spec_l2Flag_eq _) (EvP.ret (by rw [if_pos h]; simp))) (fun h => ?_)
  rw [if_neg h]
  refine EvP.ite (fun h => EvP.bind0 (spec_l2Flag_eq _) (EvP.ret (by rw [if_pos h]; simp))) (fun h => ?_)
  rw [if_neg h]
  refine EvP.ite (fun h => ?_) (fun h => ?_)
  · rw [if_pos h]
    unfold spec_l2Shift.f
    rw [if_neg (by simp), if_pos hs.1, spec_Wrap_eq, Option.bind_some]
    exact EvP.bind0 rfl (EvP.ret rfl)
  rw [if_neg h]
  refine EvP.ite (fun h => ?_) (fun h => ?_)
  · rw [if_pos h]
    unfold spec_l2Shift.f
    rw [if_pos rfl, if_pos hs.1]
    exact EvP.bind0 rfl (EvP.ret rfl)
  rw [if_neg h]
  refine EvP.ite (fun h => EvP.bind0 (spec_Wrap_eq _) (EvP.ret (by rw [if_pos h, w32_w64]))) (fun h => ?_)
  rw [if_neg h]
  refine EvP.ite (fun h => EvP.bind0 (spec_Wrap_eq _) (EvP.ret (by rw [if_pos h, w32_w64]))) (fun h => ?_)
  rw [if_neg h]
  refine EvP.ite (fun h => EvP.bind0 (spec_Wrap_eq _) (EvP.ret (by rw [if_pos h, w32_w64]))) (fun h => ?_)
  rw [if_neg h]
  refine EvP.ite (fun h => ?_) (fun h => ?_)
  · rw [if_pos h]
    unfold spec_l2Divide.f
    by_cases hz : b = 0
    · rw [if_pos hz, if_pos hz]
      exact EvP.bind0 rfl (EvP.ret rfl)
    · rw [if_neg hz, if_neg hz, spec_Wrap_eq, Option.bind_some, w32_w64]
      exact EvP.bind0 rfl (EvP.ret rfl)
  rw [if_neg h]
  unfold spec_l2Remain.f
  by_cases hz : b = 0
  · rw [if_pos hz, if_pos hz]
    exact EvP.bind0 rfl (EvP.ret rfl)
  · rw [if_neg hz, if_neg hz]
    exact EvP.bind0 rfl (EvP.ret rfl)
theorem emb_op {x : X} (h : x.ok) : (emb x).f0 = 0 ↔ ∃ n, x = .num n := by
 cases x with
 | num n => exact ⟨fun _ => ⟨n, rfl⟩, fun _ => rfl⟩
 | var v =>
  refine ⟨fun e => ?_, fun ⟨n, e⟩ => by cases e⟩
  simp [emb] at e
 | bin op a b =>
  refine ⟨fun e => ?_, fun ⟨n, e⟩ => by cases e⟩
  have e : op = 0 := e
  have ho := h.1
  omega
theorem impl_exprFold_ev : ∀ x : X, x.ok → EvP (fun k => impl_exprFold.f k (emb x).f0 (emb x).f1 (emb x).f2) (· = tri (emb x.fold))
  | .num n, h => EvP.step (fun k => impl_exprFold.f.eq_2 (k := k) ..) (EvP.yes rfl (EvP.ret rfl))
  | .var v, h => EvP.step (fun k => impl_exprFold.f.eq_2 (k := k) ..) (EvP.yes rfl (EvP.ret rfl))
  | .bin op a b, h => by
    have ha := X.fold_ok a h.2.1
    have hb := X.fold_ok b h.2.2
    have he : (X.bin op a b).fold = X.foldB op a.fold b.fold := rfl
    rw [he]
    refine EvP.step (fun k => impl_exprFold.f.eq_2 (k := k) ..) (EvP.no (by simp [emb]) (EvP.yes (by simp [emb]) ?_))
    refine EvP.bindEq (impl_exprFold_ev a h.2.1) (EvP.yes (by simp [emb]) (EvP.bindEq (impl_exprFold_ev b h.2.2) ?_))
    generalize a.fold = x at ha ⊢
    generalize b.fold = y at hb ⊢
    simp only [tri]
    have stay : (¬ ∃ m n, x = .num m ∧ y = .num n) → X.foldB op x y = .bin op x y := fun hn => X.foldB_of fun m n e1 e2 => absurd ⟨m, n, e1, e2⟩ hn
    refine EvP.ite (fun hx => ?_) (fun hx => ?_)
    · obtain ⟨m, rfl⟩ := (emb_op ha).1 hx
      refine EvP.step (fun k => impl_exprFold.j0.eq_2 (k := k) ..) (EvP.ite (fun hy => ?_) (fun hy => EvP.ret ?_))
      · obtain ⟨n, rfl⟩ := (emb_op hb).1 (by simpa using hy)
        refine EvP.bind0 (impl_apply_eq _ _ _) ?_
        simp only [emb, X.foldB]
        refine EvP.ite (fun h1 => EvP.ite (fun h2 => EvP.ret ?_) (fun h2 => EvP.ret ?_)) (fun h1 => EvP.ret ?_)
        · rw [if_pos ⟨h1, h2⟩]
          rfl
        · rw [if_neg (fun e => h2 e.2)]
          rfl
        · rw [if_neg (fun e => h1 e.1)]
          rfl
      · rw [stay (fun ⟨m', n, _, e⟩ => hy (by rw [e]; rfl))]
        simp only [emb, etaE]
    · refine EvP.step (fun k => impl_exprFold.j0.eq_2 (k := k) ..) (EvP.no (by simp) (EvP.ret ?_))
      rw [stay (fun ⟨m', n, e, _⟩ => hx (by rw [e]; rfl))]
      simp only [emb, etaE]
theorem spec_l4Fold_ev : ∀ x : X, x.ok → EvP (fun k => spec_l4Fold.f k (emb x).f0 (emb x).f1 (emb x).f2) (· = tri (emb x.fold))
  | .num n, h => EvP.step (fun k => spec_l4Fold.f.eq_2 (k := k) ..) (EvP.yes rfl (EvP.bind0 rfl (EvP.ret rfl)))
  | .var v, h => EvP.step (fun k => spec_l4Fold.f.eq_2 (k := k) ..) (EvP.yes rfl (EvP.bind0 rfl (EvP.ret rfl)))
  | .bin op a b, h => by
    have ha := X.fold_ok a h.2.1
    have hb := X.fold_ok b h.2.2
    have he : (X.bin op a b).fold = X.foldB op a.fold b.fold := rfl
    rw [he]
    refine EvP.step (fun k => spec_l4Fold.f.eq_2 (k := k) ..) (EvP.no (by simp [emb]) (EvP.yes (by simp [emb]) ?_))
    refine EvP.bindEq (spec_l4Fold_ev a h.2.1) (EvP.yes (by simp [emb]) (EvP.bindEq (spec_l4Fold_ev b h.2.2) ?_))
    generalize a.fold = x at ha ⊢
    generalize b.fold = y at hb ⊢
    simp only [tri]
    have stay : (¬ ∃ m n, x = .num m ∧ y = .num n) → X.foldB op x y = .bin op x y := fun hn => X.foldB_of fun m n e1 e2 => absurd ⟨m, n, e1, e2⟩ hn
    refine EvP.ite (fun hx => ?_) (fun hx => ?_)
    · obtain ⟨m, rfl⟩ := (emb_op ha).1 hx
      refine EvP.step (fun k => spec_l4Fold.j0.eq_2 (k := k) ..) (EvP.ite (fun hy => ?_) (fun hy => EvP.bind0 rfl (EvP.ret ?_)))
      · obtain ⟨n, rfl⟩ := (emb_op hb).1 (by simpa using hy)
        have hm : 0 ≤ m ∧ m ≤ 99999 := ha
        have hn : 0 ≤ n ∧ n ≤ 99999 := hb
        refine EvP.bindEq (spec_Apply_ev _ _ _ h.1 (vw_iff.2 (by simp only [emb]; omega)) (vw_iff.2 (by simp only [emb]; omega))) (EvP.bind0 (l6In_eq _ _ _) ?_)
        simp only [emb, X.foldB]
        refine EvP.ite (fun h1 => EvP.bind0 rfl (EvP.ret ?_)) (fun h1 => EvP.bind0 rfl (EvP.ret ?_))
        · rw [Bool.and_eq_true] at h1
          rw [if_pos ⟨of_decide_eq_true h1.1, of_decide_eq_true h1.2⟩]
          rfl
        · rw [Bool.and_eq_true] at h1
          rw [if_neg (fun e => h1 ⟨decide_eq_true e.1, decide_eq_true e.2⟩)]
          rfl
      · rw [stay (fun ⟨m', n, _, e⟩ => hy (by rw [e]; rfl))]
        simp only [emb, etaE]
    · refine EvP.step (fun k => spec_l4Fold.j0.eq_2 (k := k) ..) (EvP.no (by simp) (EvP.bind0 rfl (EvP.ret ?_)))
      rw [stay (fun ⟨m', n, e, _⟩ => hx (by rw [e]; rfl))]
      simp only [emb, etaE]
theorem sameExpr_0 (o n : Int) : EvP (fun k => laws_sameExpr.f k o n ([] : List S32) o n []) (· = true) := by
  refine EvP.step (fun k => laws_sameExpr.f.eq_2 (k := k) ..) (EvP.yes rfl (EvP.yes rfl ?_))
  refine EvP.step (fun k => laws_sameExpr.j0.eq_2 (k := k) ..) (EvP.no (by simp) ?_)
  exact EvP.step (fun k => laws_sameExpr.l0.eq_2 (k := k) ..) (EvP.no (by simp) (EvP.ret rfl))
theorem sameExpr_ev : ∀ x : X, EvP (fun k => laws_sameExpr.f k (emb x).f0 (emb x).f1 (emb x).f2 (emb x).f0 (emb x).f1 (emb x).f2) (· = true)
  | .num n => sameExpr_0 _ _
  | .var v => sameExpr_0 _ _
  | .bin op a b => by
    refine EvP.step (fun k => laws_sameExpr.f.eq_2 (k := k) ..) (EvP.yes rfl (EvP.yes rfl ?_))
    refine EvP.step (fun k => laws_sameExpr.j0.eq_2 (k := k) ..) (EvP.no (by simp) ?_)
    simp only [emb]
    refine EvP.step (fun k => laws_sameExpr.l0.eq_2 (k := k) ..) (EvP.yes (by simp) (EvP.yes (by omega) (EvP.yes (by simp) ?_)))
    rw [rdE_0]
    refine EvP.bindEq (sameExpr_ev a) (EvP.yes rfl ?_)
    rw [w64 (by omega) (by omega), show (0 : Int) + 1 = 1 from rfl]
    refine EvP.step (fun k => laws_sameExpr.l0.eq_2 (k := k) ..) (EvP.yes (by simp) (EvP.yes (by omega) (EvP.yes (by simp) ?_)))
    rw [rdE_1]
    refine EvP.bindEq (sameExpr_ev b) (EvP.yes rfl ?_)
    rw [w64 (n := 1 + 1) (by omega) (by omega), show (1 : Int) + 1 = 2 from rfl]
    exact EvP.step (fun k => laws_sameExpr.l0.eq_2 (k := k) ..) (EvP.no (by simp) (EvP.ret rfl))
end Go.Proofs.Ytodhbeeibagiaaa.PA

namespace Go.Proofs.Ytodhbeeibagiaaa.PA
open Go.RowKit Go.Proofs.YtodhbeeibagiaaaW.PrintWords Go.Proofs.Ytodhbeeibagiaaa.Core
theorem xor_nonneg (x y : Int) (hx : 0 ≤ x) (hx1 : x < 4611686018427387904) (hy : 0 ≤ y) (hy1 : y < 4611686018427387904) : 0 ≤ Go.bits .xor .i64 x y := by
 obtain ⟨a, rfl⟩ := Int.eq_ofNat_of_zero_le hx
 obtain ⟨b, rfl⟩ := Int.eq_ofNat_of_zero_le hy
 have ha : a < 2 ^ 62 := by omega
 have hb : b < 2 ^ 62 := by omega
 have hx := Nat.xor_lt_two_pow ha hb
 simp only [Go.bits, BitVec.ofInt_natCast, BitVec.toNat_xor, BitVec.toNat_ofNat]
 rw [show IntKind.i64.bits = 64 from rfl, Nat.mod_eq_of_lt (a := a) (by omega), Nat.mod_eq_of_lt (a := b) (by omega), IntKind.wrap_i64]
 omega
def Bytes (b : List Int) : Prop := b.length ≤ 2000 ∧ ∀ x ∈ b, 0 ≤ x ∧ x ≤ 255
theorem Bytes.rd {b : List Int} (h : Bytes b) (i : Int) (h0 : 0 ≤ i) (h1 : i < b.length) : 0 ≤ Go.Proofs.YtodhbeeibagiaaaW.PrintWords.rd b i ∧ Go.Proofs.YtodhbeeibagiaaaW.PrintWords.rd b i ≤ 255 := h.2 _ (rd_mem b i h0 h1)
theorem open_bytes (l : List Int) (hl : l.length ≤ 140737488351232) (hw : ∀ x ∈ l, (Lit.int .u8 x).wf = true) : ∃ b, spec_l6Open.f l = some (b, 0) ∧ Bytes b := by
 have hb : ∀ x ∈ l, 0 ≤ x ∧ x ≤ 255 := by
  intro x hx
  have h := hw x hx
  simp only [Lit.wf, Bool.and_eq_true, decide_eq_true_eq] at h
  have e1 : IntKind.u8.min = 0 := by decide
  have e2 : IntKind.u8.max = 255 := by decide
  omega
 unfold spec_l6Open.f
 by_cases h : (l.length : Int) > 2000
 ·rw [if_pos h, if_pos (by omega)]
  exact ⟨_, rfl, by rw [List.length_take]; omega, fun x hx => hb x (List.mem_of_mem_take hx)⟩
 ·rw [if_neg h]
  exact ⟨_, rfl, by omega, hb⟩
def Picked (p n : Int) (r : Int × Int) : Prop := r.2 = p + 1 ∧ 0 ≤ r.1 ∧ (1 ≤ n → r.1 < n) ∧ (n < 1 → r.1 = 0)
theorem pick_ev (b : List Int) (hb : Bytes b) (p n : Int) (h0 : 0 ≤ p) (h1 : p ≤ 1000000000000) : EvP (fun k => spec_l6Rd_pick.f k b p n) (Picked p n) := by
 unfold spec_l6Rd_pick.f
 rw [w64 (n := p + 1) (by omega) (by omega)]
 have hz : EvP (fun k => spec_l6Rd_pick.j0 k n true b (p + 1)) (fun r => r.2 = p + 1 ∧ r.1 = 0) :=
  EvP.step (fun k => spec_l6Rd_pick.j0.eq_2 (k := k) ..) (EvP.yes rfl (EvP.ret ⟨rfl, rfl⟩))
 refine EvP.ite (fun h => ?_) (fun h => ?_)
 ·exact hz.mono fun r hr => ⟨hr.1, by omega, fun _ => by omega, fun _ => hr.2⟩
 ·cases hl : ((b.length : Int) == 0) with
  | true => exact hz.mono fun r hr => ⟨hr.1, by omega, fun _ => by omega, fun _ => hr.2⟩
  | false =>
   have hl' : (b.length : Int) ≠ 0 := by simpa using hl
   have hbl := hb.1
   refine EvP.step (fun k => spec_l6Rd_pick.j0.eq_2 (k := k) ..) (EvP.no (by decide) ?_)
   rw [w64 (n := p + 1 - 1) (by omega) (by omega), show p + 1 - 1 = p by omega]
   refine EvP.ite (fun h2 => ?_) (fun h2 => ?_)
   ·refine EvP.yes h0 (EvP.no (by omega) (EvP.ret ?_))
    have hr := hb.rd p h0 h2
    rw [w64 (by omega) (by omega)]
    have ht := tm_range hr.1 (show 0 < n by omega)
    exact ⟨rfl, ht.1, fun _ => ht.2, fun _ => by omega⟩
   ·have t1 := tm_range h0 (show (0 : Int) < b.length by omega)
    have t2 := tm_range (show 0 ≤ p * 7 + 3 by omega) (show (0 : Int) < b.length by omega)
    rw [w64 (n := p * 7) (by omega) (by omega), w64 (n := p * 7 + 3) (by omega) (by omega)]
    refine EvP.no hl' (EvP.yes t1.1 (EvP.yes t1.2 (EvP.yes t2.1 (EvP.yes t2.2 (EvP.no (by omega) (EvP.ret ?_))))))
    have r1 := hb.rd _ t1.1 t1.2
    have r2 := hb.rd _ t2.1 t2.2
    have hd0 : 0 ≤ Int.tdiv p b.length := Int.tdiv_nonneg h0 (by omega)
    have hd1 : Int.tdiv p b.length ≤ p := by
     rw [Int.tdiv_eq_ediv_of_nonneg h0]
     exact Int.ediv_le_self _ h0
    generalize Go.Proofs.YtodhbeeibagiaaaW.PrintWords.rd b (Int.tmod p b.length) = x1 at *
    generalize Go.Proofs.YtodhbeeibagiaaaW.PrintWords.rd b (Int.tmod (p * 7 + 3) b.length) = x2 at *
    generalize Int.tdiv p b.length = q at *
    simp only [w64 (n := x1) (by omega) (by omega), w64 (n := x2) (by omega) (by omega), w64 (n := q) (by omega) (by omega)]
    simp only [w64 (n := x1 * 131) (by omega) (by omega), w64 (n := x2 * 1117) (by omega) (by omega), w64 (n := p * 29) (by omega) (by omega), w64 (n := q * 53) (by omega) (by omega)]
    simp only [w64 (n := x1 * 131 + x2 * 1117) (by omega) (by omega)]
    simp only [w64 (n := x1 * 131 + x2 * 1117 + p * 29) (by omega) (by omega)]
    simp only [w64 (n := x1 * 131 + x2 * 1117 + p * 29 + q * 53) (by omega) (by omega)]
    have hs0 : 0 ≤ x1 * 131 + x2 * 1117 + p * 29 + q * 53 := by omega
    have hs1 : x1 * 131 + x2 * 1117 + p * 29 + q * 53 < 1000000000000000 := by omega
    generalize x1 * 131 + x2 * 1117 + p * 29 + q * 53 = s at *
    have hv0 : 0 ≤ Int.tdiv s 64 := Int.tdiv_nonneg hs0 (by omega)
    have hv1 : Int.tdiv s 64 ≤ s := by
     rw [Int.tdiv_eq_ediv_of_nonneg hs0]
     exact Int.ediv_le_self _ hs0
    rw [w64 (n := Int.tdiv s 64) (by omega) (by omega)]
    have hx := xor_nonneg s (Int.tdiv s 64) hs0 (by omega) hv0 (by omega)
    have ht := tm_range hx (show 0 < n by omega)
    exact ⟨rfl, ht.1, fun _ => ht.2, fun _ => by omega⟩
theorem pick_then {β : Type} {b : List Int} (hb : Bytes b) {p n : Int} (h0 : 0 ≤ p) (h1 : p ≤ 1000000000000) {f : Nat → Int × Int → Option β} {R : β → Prop}
  (k : ∀ v, 0 ≤ v → (1 ≤ n → v < n) → (n < 1 → v = 0) → EvP (fun m => f m (v, p + 1)) R) : EvP (fun m => (spec_l6Rd_pick.f m b p n).bind (f m)) R :=
 EvP.bind (pick_ev b hb p n h0 h1) (fun r hr => by
  obtain ⟨v, q⟩ := r
  obtain ⟨e, k0, k1, k2⟩ := hr
  obtain rfl : q = p + 1 := e
  exact k v k0 k1 k2)
theorem l91Op_ev (b : List Int) (hb : Bytes b) (p : Int) (h0 : 0 ≤ p) (h1 : p ≤ 900000000000) : EvP (fun k => spec_l91Op.f k b p) (fun r => r.2 = p + 1 ∧ 1 ≤ r.1 ∧ r.1 ≤ 12) := by
 unfold spec_l91Op.f
 refine pick_then hb h0 (by omega) fun v v0 v1 _ => ?_
 have := v1 (by omega)
 dsimp only
 rw [w64 (by omega) (by omega)]
 exact EvP.ret (by dsimp only; omega)
theorem l91Leaf_ev (b : List Int) (hb : Bytes b) (p : Int) (h0 : 0 ≤ p) (h1 : p ≤ 900000000000) : EvP (fun k => spec_l91Leaf.f k b p) (fun r => p ≤ r.2.2.2 ∧ r.2.2.2 ≤ p + 2 ∧ r.2.2.1.length = 0) := by
 unfold spec_l91Leaf.f
 refine pick_then hb h0 (by omega) fun v v0 v1 _ => ?_
 dsimp only
 refine EvP.ite (fun h => ?_) (fun h => ?_)
 ·refine pick_then hb (by omega) (by omega) fun v2 w0 w1 _ => ?_
  exact EvP.bind0 rfl (EvP.ret (by simp; omega))
 ·refine EvP.ite (fun h => ?_) (fun h => ?_)
  ·refine EvP.bind0 rfl (pick_then hb (by omega) (by omega) fun v2 w0 w1 _ => ?_)
   have := w1 (by omega)
   exact EvP.yes w0 (EvP.yes (by simp; omega) (EvP.bind0 rfl (EvP.ret (by simp; omega))))
  ·refine pick_then hb (by omega) (by omega) fun v2 w0 w1 _ => ?_
   exact EvP.bind0 rfl (EvP.ret (by simp; omega))
theorem l91Expr_ev (b : List Int) (hb : Bytes b) : ∀ (d : Nat) (p : Int), d ≤ 10 → 0 ≤ p → p + 4 ^ (d + 1) ≤ 800000000000 → EvP (fun k => spec_l91Expr.f k b p (d : Int)) (fun r => p ≤ r.2.2.2 ∧ r.2.2.2 ≤ p + 4 ^ (d + 1) ∧ r.2.2.1.length ≤ 2) := by
 intro d
 have leaf : ∀ (d' : Int) (q : Int) (p : Int) (m : Nat), 0 ≤ q → q ≤ 800000000000 → p ≤ q → q + 2 ≤ p + 4 ^ (m + 1) → EvP (fun k => spec_l91Expr.j0 k d' true b q) (fun r => p ≤ r.2.2.2 ∧ r.2.2.2 ≤ p + 4 ^ (m + 1) ∧ r.2.2.1.length ≤ 2) := by
  intro d' q p m h0 h1 h2 h3
  refine EvP.step (fun k => spec_l91Expr.j0.eq_2 (k := k) ..) (EvP.yes rfl ?_)
  refine EvP.bind (l91Leaf_ev b hb q h0 (by omega)) fun r hr => ?_
  exact EvP.ret (by dsimp only; omega)
 induction d with
 | zero =>
  intro p hd h0 h1
  refine EvP.step (fun k => spec_l91Expr.f.eq_2 (k := k) ..) (EvP.yes (by omega) ?_)
  exact leaf _ p p 0 h0 (by omega) (by omega) (by omega)
 | succ d ih =>
  intro p hd h0 h1
  have h4 : (4 : Int) ^ (d + 1 + 1) = 4 * 4 ^ (d + 1) := by rw [Int.pow_succ, Int.mul_comm]
  have h5 : (4 : Int) ≤ 4 ^ (d + 1) := by
   have : 0 < (4 : Int) ^ d := Int.pow_pos (by omega)
   rw [Int.pow_succ]
   omega
  refine EvP.step (fun k => spec_l91Expr.f.eq_2 (k := k) ..) (EvP.ite (fun h => ?_) (fun h => ?_))
  ·exact leaf _ p p (d + 1) h0 (by omega) (by omega) (by omega)
  ·refine pick_then hb h0 (by omega) fun v v0 v1 _ => ?_
   dsimp only
   cases hv : (v == 0) with
   | true => exact leaf _ (p + 1) p (d + 1) (by omega) (by omega) (by omega) (by omega)
   | false =>
    refine EvP.step (fun k => spec_l91Expr.j0.eq_2 (k := k) ..) (EvP.no (by simp) ?_)
    rw [w64 (by omega) (by omega), show ((d + 1 : Nat) : Int) - 1 = (d : Int) by omega]
    refine EvP.bind (l91Op_ev b hb (p + 1) (by omega) (by omega)) fun r hr => ?_
    refine EvP.bind (ih r.2 (by omega) (by omega) (by omega)) fun s hs => ?_
    refine EvP.bind (ih s.2.2.2 (by omega) (by omega) (by omega)) fun u hu => ?_
    exact EvP.bind0 rfl (EvP.ret (by simp; omega))
theorem l91Expr_ev' (b : List Int) (hb : Bytes b) (d : Int) (p : Int) (hd0 : 0 ≤ d) (hd : d ≤ 5) (h0 : 0 ≤ p) (h1 : p ≤ 700000000000) : EvP (fun k => spec_l91Expr.f k b p d) (fun r => p ≤ r.2.2.2 ∧ r.2.2.2 ≤ p + 4096 ∧ r.2.2.1.length ≤ 2) := by
 have hp : (4 : Int) ^ (d.toNat + 1) ≤ 4096 := by
  have : d.toNat ≤ 5 := by omega
  have h2 : 4 ^ (d.toNat + 1) ≤ 4 ^ 6 := Nat.pow_le_pow_right (by omega) (by omega)
  have h3 : ((4 ^ (d.toNat + 1) : Nat) : Int) ≤ 4096 := by omega
  rw [Int.natCast_pow] at h3
  exact h3
 have h := l91Expr_ev b hb d.toNat p (by omega) h0 (by omega)
 rw [Int.toNat_of_nonneg hd0] at h
 exact h.mono fun r hr => by omega
def cB : Nat → Nat
 | 0 => 1
 | d + 1 => 4 * cB d + 3
def pB : Nat → Nat
 | 0 => 5000
 | d + 1 => 4 * pB d + 5000
theorem cB_le {d : Nat} (h : d ≤ 3) : 1 ≤ cB d ∧ cB d ≤ 127 := by
 match d, h with
 | 0, _ => decide
 | 1, _ => decide
 | 2, _ => decide
 | 3, _ => decide
theorem pB_le {d : Nat} (h : d ≤ 3) : 5000 ≤ pB d ∧ pB d ≤ 425000 := by
 match d, h with
 | 0, _ => decide
 | 1, _ => decide
 | 2, _ => decide
 | 3, _ => decide
def DS (p : Int) (P C : Nat) (r : Int × Int × Int × Int × Int × (List (S32)) × (List (S35)) × (List (S35)) × Int) : Prop :=
 p ≤ r.2.2.2.2.2.2.2.2 ∧ r.2.2.2.2.2.2.2.2 ≤ p + P ∧ cSs r.2.2.2.2.2.2.1 + cSs r.2.2.2.2.2.2.2.1 ≤ C
def DL (p : Int) (P C : Nat) (r : List (S35) × Int) : Prop := p ≤ r.2 ∧ r.2 ≤ p + P ∧ cSs r.1 ≤ C
theorem l92Set_ev (b : List Int) (hb : Bytes b) (p : Int) (h0 : 0 ≤ p) (h1 : p ≤ 600000000000) : EvP (fun k => spec_l92Set.f k b p) (DS p 4100 0) := by
 unfold spec_l92Set.f
 refine pick_then hb h0 (by omega) fun v v0 v1 _ => ?_
 refine pick_then hb (by dsimp only; omega) (by dsimp only; omega) fun u u0 u1 _ => ?_
 have := u1 (by omega)
 dsimp only
 rw [w64 (by omega) (by omega)]
 refine EvP.bind (l91Expr_ev' b hb _ _ (by omega) (by omega) (by omega) (by omega)) fun r hr => EvP.ret ?_
 unfold DS
 simp only [cSs_nil]
 omega
theorem l92Talk_ev (b : List Int) (hb : Bytes b) (p a1 : Int) (h0 : 0 ≤ p) (h1 : p ≤ 500000000000) : EvP (fun k => spec_l92Talk.f k b p a1) (DS p 4200 0) := by
 unfold spec_l92Talk.f
 refine EvP.ite (fun h => ?_) (fun h => ?_)
 ·refine EvP.bind (l92Set_ev b hb p h0 (by omega)) fun r hr => EvP.ret ?_
  unfold DS at hr ⊢
  dsimp only
  omega
 ·refine pick_then hb h0 (by omega) fun v v0 v1 _ => ?_
  refine pick_then hb (by dsimp only; omega) (by dsimp only; omega) fun u u0 u1 _ => ?_
  dsimp only
  refine EvP.ite (fun h => ?_) (fun h => ?_)
  ·refine pick_then hb (by omega) (by omega) fun w w0 w1 _ => ?_
   have := w1 (by omega)
   dsimp only
   rw [w64 (by omega) (by omega)]
   refine EvP.bind (l91Expr_ev' b hb _ _ (by omega) (by omega) (by omega) (by omega)) fun r hr => EvP.ret ?_
   unfold DS
   simp only [cSs_nil]
   omega
  ·refine pick_then hb (by omega) (by omega) fun w w0 w1 _ => EvP.ret ?_
   unfold DS
   simp only [cSs_nil]
   omega
theorem l92Block_l0 (b : List Int) (x1 x2 : Int) (x4 : Bool) (P C : Nat) (M : Int)
  (stmt : ∀ p, 0 ≤ p → p ≤ M → EvP (fun k => spec_l92Stmt.f k b p x1 x2 x4) (DL p P C)) (n : Int) :
  ∀ (r j : Nat) (l : List (S35)) (p : Int), (j : Int) + r = n → j + r ≤ 100 → cSs l + r * C ≤ 1000000 → 0 ≤ p → p + ((r * P : Nat) : Int) ≤ M →
   EvP (fun k => spec_l92Block.l0 k x1 x2 n x4 l (j : Int) b p) (DL p (r * P) (cSs l + r * C)) := by
 intro r
 induction r with
 | zero =>
  intro j l p hj hr hl h0 h1
  refine EvP.step (fun k => spec_l92Block.l0.eq_2 (k := k) ..) (EvP.no (by omega) (EvP.ret ?_))
  unfold DL
  dsimp only
  omega
 | succ r ih =>
  intro j l p hj hr hl h0 h1
  have e1 : (r + 1) * P = r * P + P := Nat.succ_mul r P
  have e2 : (r + 1) * C = r * C + C := Nat.succ_mul r C
  rw [e1] at h1 ⊢
  rw [e2] at hl ⊢
  refine EvP.step (fun k => spec_l92Block.l0.eq_2 (k := k) ..) (EvP.yes (by omega) ?_)
  refine EvP.bind (stmt p h0 (by omega)) fun s hs => ?_
  obtain ⟨s0, s1, s2⟩ := hs
  have l1 := cSs_length l
  have l2 := cSs_length s.1
  have ha := cSs_append l s.1
  refine EvP.yes (by omega) ?_
  rw [w64 (by omega) (by omega)]
  refine (ih (j + 1) (l ++ s.1) s.2 (by omega) (by omega) (by omega) (by omega) (by omega)).mono fun a ha => ?_
  unfold DL at ha ⊢
  omega
theorem l92Block_of (b : List Int) (x1 x2 : Int) (x4 : Bool) (P C : Nat) (M : Int)
  (stmt : ∀ p, 0 ≤ p → p ≤ M → EvP (fun k => spec_l92Stmt.f k b p x1 x2 x4) (DL p P C)) (n : Int) (m : Nat) (hn0 : 0 ≤ n) (hn : n ≤ m) (hm : m ≤ 100) (hC : m * C ≤ 1000000) (p : Int) (h0 : 0 ≤ p) (h1 : p + ((m * P : Nat) : Int) ≤ M) :
  EvP (fun k => spec_l92Block.f k b p x1 x2 n x4) (DL p (m * P) (m * C)) := by
 have hnm : n.toNat ≤ m := by omega
 have e1 : n.toNat * P ≤ m * P := Nat.mul_le_mul_right P hnm
 have e2 : n.toNat * C ≤ m * C := Nat.mul_le_mul_right C hnm
 refine EvP.step (fun k => spec_l92Block.f.eq_2 (k := k) ..) ?_
 refine (l92Block_l0 b x1 x2 x4 P C M stmt n n.toNat 0 [] p (by omega) (by omega) (by rw [cSs_nil]; omega) h0 (by omega)).mono fun a ha => ?_
 unfold DL at ha ⊢
 rw [cSs_nil] at ha
 omega
theorem l92If_of (b : List Int) (hb : Bytes b) (x1 a2 : Int) (x4 : Bool) (P C : Nat) (hP : P ≤ 1000000) (hC : C ≤ 1000) (M : Int) (hM : M ≤ 300000000000)
  (stmt : ∀ p, 0 ≤ p → p ≤ M → EvP (fun k => spec_l92Stmt.f k b p x1 (wrap64 (a2 - 1)) x4) (DL p P C)) (p : Int) (h0 : 0 ≤ p) (h1 : p + 10000000 ≤ M) :
  EvP (fun k => spec_l92If.f k b p x1 a2 x4) (DS p (4 * P + 4200) (4 * C)) := by
 refine EvP.step (fun k => spec_l92If.f.eq_2 (k := k) ..) ?_
 refine pick_then hb h0 (by omega) fun v v0 v1 _ => ?_
 have := v1 (by omega)
 dsimp only
 rw [w64 (n := 1 + v) (by omega) (by omega)]
 refine EvP.bind (l91Expr_ev' b hb _ _ (by omega) (by omega) (by omega) (by omega)) fun r hr => ?_
 refine pick_then hb (by omega) (by omega) fun u u0 u1 _ => ?_
 have := u1 (by omega)
 refine EvP.bind (l92Block_of b x1 _ x4 P C M stmt u 2 u0 (by omega) (by omega) (by omega) _ (by dsimp only; omega) (by dsimp only; omega)) fun s hs => ?_
 obtain ⟨s0, s1, s2⟩ := hs
 dsimp only at s0 s1
 refine pick_then hb (by omega) (by omega) fun w w0 w1 _ => ?_
 have := w1 (by omega)
 refine EvP.bind (l92Block_of b x1 _ x4 P C M stmt w 2 w0 (by omega) (by omega) (by omega) _ (by dsimp only; omega) (by dsimp only; omega)) fun t ht => EvP.ret ?_
 obtain ⟨t0, t1, t2⟩ := ht
 dsimp only at t0 t1
 unfold DS
 dsimp only
 omega
theorem l92Loop_of (b : List Int) (hb : Bytes b) (x1 a2 : Int) (P C : Nat) (hP : P ≤ 1000000) (hC : C ≤ 1000) (M : Int) (hM : M ≤ 300000000000)
  (stmt : ∀ p, 0 ≤ p → p ≤ M → EvP (fun k => spec_l92Stmt.f k b p x1 (wrap64 (a2 - 1)) false) (DL p P C)) (p : Int) (h0 : 0 ≤ p) (h1 : p + 10000000 ≤ M) :
  EvP (fun k => spec_l92Loop.f k b p x1 a2) (DL p (2 * P + 10) (2 * C + 3)) := by
 refine EvP.step (fun k => spec_l92Loop.f.eq_2 (k := k) ..) ?_
 refine pick_then hb h0 (by omega) fun v v0 v1 _ => ?_
 have := v1 (by omega)
 refine EvP.bind (l92Block_of b x1 _ false P C M stmt v 2 v0 (by omega) (by omega) (by omega) _ (by dsimp only; omega) (by dsimp only; omega)) fun s hs => ?_
 obtain ⟨s0, s1, s2⟩ := hs
 dsimp only at s0 s1
 refine EvP.bind0 rfl (EvP.bind0 rfl (EvP.bind0 rfl (EvP.bind0 rfl ?_)))
 refine pick_then hb (by omega) (by omega) fun u u0 u1 _ => ?_
 refine EvP.bind0 rfl (EvP.bind0 rfl (EvP.bind0 rfl ?_))
 have l1 := cSs_length s.1
 refine EvP.yes (by simp; omega) (EvP.bind0 rfl (EvP.ret ?_))
 unfold DL
 simp only [cSs, cS, cSs_append]
 omega
theorem l92Stmt_j2 (b : List Int) (hb : Bytes b) (x1 x10 : Int) (x : Bool) (p : Int) (h0 : 0 ≤ p) (h1 : p ≤ 300000000000) :
  EvP (fun k => spec_l92Stmt.j2 k x1 x10 x b p) (DL p 4300 1) := by
 refine EvP.step (fun k => spec_l92Stmt.j2.eq_2 (k := k) ..) (EvP.ite (fun h => ?_) (fun h => EvP.ite (fun h => EvP.ret ?_) (fun h => ?_)))
 ·refine EvP.bind (l92Talk_ev b hb p x1 h0 (by omega)) fun r hr => EvP.ret ?_
  unfold DS at hr
  unfold DL
  simp only [cSs, cS]
  omega
 ·unfold DL
  simp only [cSs, cS]
  omega
 ·refine pick_then hb h0 (by omega) fun u u0 u1 _ => ?_
  have := u1 (by omega)
  dsimp only
  rw [w64 (by omega) (by omega)]
  refine EvP.bind (l91Expr_ev' b hb _ _ (by omega) (by omega) (by omega) (by omega)) fun r hr => EvP.ret ?_
  unfold DL
  simp only [cSs, cS]
  omega
theorem l92Stmt_ev (b : List Int) (hb : Bytes b) : ∀ (d : Nat) (a2 : Int) (x1 : Int) (x3 : Bool) (p : Int), d ≤ 3 → a2 = d → 0 ≤ p → p + (d : Int) * 20000000 ≤ 200000000000 → EvP (fun k => spec_l92Stmt.f k b p x1 a2 x3) (DL p (pB d) (cB d)) := by
 intro d
 induction d with
 | zero =>
  intro a2 x1 x3 p hd ha h0 h1
  have j2 : ∀ (q x10 : Int) (x : Bool), p ≤ q → q ≤ p + 1 → EvP (fun k => spec_l92Stmt.j2 k x1 x10 x b q) (DL p (pB 0) (cB 0)) := fun q x10 x hq hq2 => (l92Stmt_j2 b hb x1 x10 x q (by omega) (by omega)).mono fun r hr => by
   unfold DL at hr ⊢
   simp only [pB, cB]
   omega
  have pr : ∀ q : Int, p ≤ q → q ≤ p + 1 → EvP (fun k => (spec_l6Rd_pick.f k b q 3).bind fun bt442 => ((spec_l91Expr.f k b bt442.2 (wrap64 (1 + bt442.1))).bind fun bt444 => (some ((([(⟨7, 0, 0, (⟨bt444.1, bt444.2.1, bt444.2.2.1⟩ : S32), ([] : List (S35)), ([] : List (S35))⟩ : S35)] : List (S35))), bt444.2.2.2)))) (DL p (pB 0) (cB 0)) := by
   intro q hq hq2
   refine pick_then hb (by omega) (by omega) fun u u0 u1 _ => ?_
   have := u1 (by omega)
   dsimp only
   rw [w64 (by omega) (by omega)]
   refine EvP.bind (l91Expr_ev' b hb _ _ (by omega) (by omega) (by omega) (by omega)) fun r hr => EvP.ret ?_
   unfold DL
   simp only [cSs, cS, pB, cB]
   omega
  have j1 : ∀ q : Int, p ≤ q → q ≤ p + 1 → EvP (fun k => spec_l92Stmt.j1 k x1 a2 false b q) (DL p (pB 0) (cB 0)) := fun q hq hq2 =>
   EvP.step (fun k => spec_l92Stmt.j1.eq_2 (k := k) ..) (EvP.no Bool.false_ne_true (pr q hq hq2))
  have j0 : ∀ (q x10 : Int) (x : Bool), p ≤ q → q ≤ p + 1 → EvP (fun k => spec_l92Stmt.j0 k x1 a2 x3 x10 x b q) (DL p (pB 0) (cB 0)) := by
   intro q x10 x hq hq2
   refine EvP.step (fun k => spec_l92Stmt.j0.eq_2 (k := k) ..) (EvP.ite (fun h => ?_) (fun h => EvP.ite (fun h => EvP.no (by omega) (pr q hq hq2)) (fun h => EvP.ite (fun h => EvP.no (by omega) (j1 q hq hq2)) (fun h => EvP.ite (fun h => j2 q _ _ hq hq2) (fun h => EvP.ite (fun h => j2 q _ _ hq hq2) (fun h => j2 q _ _ hq hq2))))))
   refine EvP.bind (l92Set_ev b hb q (by omega) (by omega)) fun r hr => EvP.ret ?_
   unfold DS at hr
   unfold DL
   simp only [cSs, cS, pB, cB]
   omega
  refine EvP.step (fun k => spec_l92Stmt.f.eq_2 (k := k) ..) (pick_then hb h0 (by omega) fun u u0 u1 _ => ?_)
  dsimp only
  exact EvP.ite (fun h => j0 _ _ _ (by omega) (by omega)) (fun h => j0 _ _ _ (by omega) (by omega))
 | succ d ih =>
  intro a2 x1 x3 p hd ha h0 h1
  have hc := cB_le (show d ≤ 3 by omega)
  have hp := pB_le (show d ≤ 3 by omega)
  have ec : cB (d + 1) = 4 * cB d + 3 := rfl
  have ep : pB (d + 1) = 4 * pB d + 5000 := rfl
  have ew : wrap64 (a2 - 1) = (d : Int) := by
   rw [w64 (by omega) (by omega)]
   omega
  have stmt : ∀ (x4 : Bool) (p : Int), 0 ≤ p → p ≤ 200000000000 - (d : Int) * 20000000 → EvP (fun k => spec_l92Stmt.f k b p x1 (wrap64 (a2 - 1)) x4) (DL p (pB d) (cB d)) := fun x4 p h0 h1 => ih _ x1 x4 p (by omega) ew h0 (by omega)
  have j2 : ∀ (q x10 : Int) (x : Bool), p ≤ q → q ≤ p + 1 → EvP (fun k => spec_l92Stmt.j2 k x1 x10 x b q) (DL p (pB (d + 1)) (cB (d + 1))) := fun q x10 x hq hq2 => (l92Stmt_j2 b hb x1 x10 x q (by omega) (by omega)).mono fun r hr => by
   unfold DL at hr ⊢
   omega
  have pr : ∀ q : Int, p ≤ q → q ≤ p + 1 → EvP (fun k => (spec_l6Rd_pick.f k b q 3).bind fun bt442 => ((spec_l91Expr.f k b bt442.2 (wrap64 (1 + bt442.1))).bind fun bt444 => (some ((([(⟨7, 0, 0, (⟨bt444.1, bt444.2.1, bt444.2.2.1⟩ : S32), ([] : List (S35)), ([] : List (S35))⟩ : S35)] : List (S35))), bt444.2.2.2)))) (DL p (pB (d + 1)) (cB (d + 1))) := by
   intro q hq hq2
   refine pick_then hb (by omega) (by omega) fun u u0 u1 _ => ?_
   have := u1 (by omega)
   dsimp only
   rw [w64 (by omega) (by omega)]
   refine EvP.bind (l91Expr_ev' b hb _ _ (by omega) (by omega) (by omega) (by omega)) fun r hr => EvP.ret ?_
   unfold DL
   simp only [cSs, cS]
   omega
  have j1 : ∀ (q : Int) (x : Bool), p ≤ q → q ≤ p + 1 → EvP (fun k => spec_l92Stmt.j1 k x1 a2 x b q) (DL p (pB (d + 1)) (cB (d + 1))) := by
   intro q x hq hq2
   refine EvP.step (fun k => spec_l92Stmt.j1.eq_2 (k := k) ..) (EvP.ite (fun h => ?_) (fun h => pr q hq hq2))
   refine EvP.bind (l92Loop_of b hb x1 a2 (pB d) (cB d) (by omega) (by omega) (200000000000 - (d : Int) * 20000000) (by omega) (stmt false) q (by omega) (by omega)) fun r hr => EvP.ret ?_
   unfold DL at hr ⊢
   dsimp only
   omega
  have j0 : ∀ (q x10 : Int) (x : Bool), p ≤ q → q ≤ p + 1 → EvP (fun k => spec_l92Stmt.j0 k x1 a2 x3 x10 x b q) (DL p (pB (d + 1)) (cB (d + 1))) := by
   intro q x10 x hq hq2
   refine EvP.step (fun k => spec_l92Stmt.j0.eq_2 (k := k) ..) (EvP.ite (fun h => ?_) (fun h => EvP.ite (fun h => EvP.ite (fun h => ?_) (fun h => pr q hq hq2)) (fun h => EvP.ite (fun h => EvP.ite (fun h => j1 q _ hq hq2) (fun h => j1 q _ hq hq2)) (fun h => EvP.ite (fun h => j2 q _ _ hq hq2) (fun h => EvP.ite (fun h => j2 q _ _ hq hq2) (fun h => j2 q _ _ hq hq2))))))
   ·refine EvP.bind (l92Set_ev b hb q (by omega) (by omega)) fun r hr => EvP.ret ?_
    unfold DS at hr
    unfold DL
    simp only [cSs, cS]
    omega
   ·refine EvP.bind (l92If_of b hb x1 a2 x3 (pB d) (cB d) (by omega) (by omega) (200000000000 - (d : Int) * 20000000) (by omega) (stmt x3) q (by omega) (by omega)) fun r hr => EvP.ret ?_
    unfold DS at hr
    unfold DL
    simp only [cSs, cS]
    omega
  refine EvP.step (fun k => spec_l92Stmt.f.eq_2 (k := k) ..) (pick_then hb h0 (by omega) fun u u0 u1 _ => ?_)
  dsimp only
  exact EvP.ite (fun h => j0 _ _ _ (by omega) (by omega)) (fun h => j0 _ _ _ (by omega) (by omega))
theorem l92Block_ev (b : List Int) (hb : Bytes b) (d : Nat) (hd : d ≤ 3) (a2 x1 : Int) (ha : a2 = d) (x4 : Bool) (n : Int) (m : Nat) (hn0 : 0 ≤ n) (hn : n ≤ m) (hm : m ≤ 6) (p : Int) (h0 : 0 ≤ p) (h1 : p ≤ 190000000000) :
  EvP (fun k => spec_l92Block.f k b p x1 a2 n x4) (DL p (m * pB d) (m * cB d)) := by
 have hc := cB_le hd
 have hp := pB_le hd
 have e1 : m * pB d ≤ 6 * pB d := Nat.mul_le_mul_right _ hm
 have e2 : m * cB d ≤ 6 * cB d := Nat.mul_le_mul_right _ hm
 exact l92Block_of b x1 a2 x4 (pB d) (cB d) (200000000000 - (d : Int) * 20000000) (fun p h0 h1 => l92Stmt_ev b hb d a2 x1 x4 p hd ha h0 (by omega)) n m hn0 hn (by omega) (by omega) p h0 (by omega)
theorem l92Stmts_l0 (b : List Int) (p : Int) : ∀ (m : Nat) (l : List (S35)), l.length = m → cSs l ≤ 1000000 → EvP (fun k => spec_l92Stmts.l0 k l b p) (fun r => r.2 = p ∧ cSs r.1 ≤ 16) := by
 intro m
 induction m with
 | zero =>
  intro l hm hl
  obtain rfl := List.eq_nil_of_length_eq_zero hm
  refine EvP.step (fun k => spec_l92Stmts.l0.eq_2 (k := k) ..) (EvP.bindEq (spec_l11Count_ev _ _ hl (by omega)) (EvP.no ?_ (EvP.ret ⟨rfl, ?_⟩)))
  ·rw [cSs_nil]
   omega
  ·rw [cSs_nil]
   omega
 | succ m ih =>
  intro l hm hl
  refine EvP.step (fun k => spec_l92Stmts.l0.eq_2 (k := k) ..) (EvP.bindEq (spec_l11Count_ev _ _ hl (by omega)) (EvP.ite (fun h => ?_) (fun h => EvP.ret ⟨rfl, by dsimp only; omega⟩)))
  have hlen := cSs_length l
  rw [w64 (by omega) (by omega), show (((l.length : Int) - 1)).toNat = m by omega]
  have ht := cSs_take_drop l m
  exact EvP.yes (by omega) (EvP.yes (by omega) (ih _ (by rw [List.length_take]; omega) (by omega)))
theorem l92Stmts_ev (b : List Int) (hb : Bytes b) (p a1 : Int) (h0 : 0 ≤ p) (h1 : p ≤ 180000000000) : EvP (fun k => spec_l92Stmts.f k b p a1) (DL p 3000000 16) := by
 unfold spec_l92Stmts.f
 refine pick_then hb h0 (by omega) fun v v0 v1 _ => ?_
 have := v1 (by omega)
 dsimp only
 rw [w64 (by omega) (by omega)]
 have hc := cB_le (show 3 ≤ 3 by omega)
 have hp := pB_le (show 3 ≤ 3 by omega)
 refine EvP.bind (l92Block_ev b hb 3 (by omega) 3 a1 rfl true (1 + v) 6 (by omega) (by omega) (by omega) _ (by omega) (by omega)) fun r hr => ?_
 obtain ⟨r0, r1, r2⟩ := hr
 refine (l92Stmts_l0 b r.2 _ r.1 rfl (by omega)).mono fun s hs => ?_
 unfold DL
 omega
theorem l92Endless_ev (b : List Int) (hb : Bytes b) (p : Int) (h0 : 0 ≤ p) (h1 : p ≤ 180000000000) : EvP (fun k => spec_l92Endless.f k b p) (DS p 100000 20) := by
 unfold spec_l92Endless.f
 refine EvP.bind0 rfl (pick_then hb h0 (by omega) fun v v0 v1 _ => ?_)
 have := v1 (by omega)
 dsimp only
 refine EvP.bind (l92Block_ev b hb 1 (by omega) 1 0 rfl false v 2 (by omega) (by omega) (by omega) _ (by omega) (by omega)) fun r hr => EvP.ret ?_
 obtain ⟨r0, r1, r2⟩ := hr
 have e1 : cB 1 = 7 := rfl
 have e2 : pB 1 = 25000 := rfl
 rw [e2] at r1
 rw [e1] at r2
 unfold DS
 simp only [cSs_nil]
 omega
theorem l92If_ev (b : List Int) (hb : Bytes b) (p x1 : Int) (x4 : Bool) (h0 : 0 ≤ p) (h1 : p ≤ 180000000000) : EvP (fun k => spec_l92If.f k b p x1 1 x4) (DS p 30000 4) := by
 have e1 : cB 0 = 1 := rfl
 have e2 : pB 0 = 5000 := rfl
 refine (l92If_of b hb x1 1 x4 (pB 0) (cB 0) (by omega) (by omega) 200000000000 (by omega) (fun p h0 h1 => l92Stmt_ev b hb 0 _ x1 x4 p (by omega) (by rw [w64 (by omega) (by omega)]; rfl) h0 (by omega)) p h0 (by omega)).mono fun r hr => ?_
 unfold DS at hr ⊢
 omega
theorem l92Some_ev (b : List Int) (hb : Bytes b) (p : Int) (h0 : 0 ≤ p) (h1 : p ≤ 100000000000) : EvP (fun k => spec_l92Some.f k b p) (DL p 5000000 60) := by
 unfold spec_l92Some.f
 refine EvP.bind (l92Stmts_ev b hb p 3 h0 (by omega)) fun r hr => ?_
 obtain ⟨r0, r1, r2⟩ := hr
 have hlen := cSs_length r.1
 refine pick_then hb (by omega) (by omega) fun v v0 v1 _ => ?_
 dsimp only
 refine EvP.ite (fun h => ?_) (fun h => EvP.ite (fun h => ?_) (fun h => EvP.ite (fun h => ?_) (fun h => EvP.ite (fun h => ?_) (fun h => EvP.ite (fun h => ?_) (fun h => EvP.ite (fun h => ?_) (fun h => EvP.ret ?_))))))
 ·refine EvP.bind (l92Endless_ev b hb _ (by omega) (by omega)) fun s hs => EvP.yes (by omega) (EvP.ret ?_)
  unfold DS at hs
  unfold DL
  simp only [cSs_append, cSs, cS]
  omega
 ·refine EvP.bind0 rfl (pick_then hb (by omega) (by omega) fun u u0 u1 _ => ?_)
  have := u1 (by omega)
  refine EvP.yes u0 (EvP.yes (by simp; omega) (EvP.yes (by omega) (EvP.ret ?_)))
  unfold DL
  simp only [cSs_append, cSs, cS]
  omega
 ·refine EvP.bind (l91Leaf_ev b hb _ (by omega) (by omega)) fun s hs => EvP.yes (by omega) (EvP.ret ?_)
  unfold DL
  simp only [cSs_append, cSs, cS]
  omega
 ·refine EvP.yes (by omega) (EvP.ret ?_)
  unfold DL
  simp only [cSs_append, cSs, cS]
  omega
 ·refine EvP.bind (l92If_ev b hb _ 1 false (by omega) (by omega)) fun s hs => EvP.yes (by omega) (EvP.ret ?_)
  unfold DS at hs
  unfold DL
  simp only [cSs_append, cSs, cS]
  omega
 ·refine EvP.bind (l91Leaf_ev b hb _ (by omega) (by omega)) fun s hs => EvP.yes (by omega) (EvP.ret ?_)
  unfold DL
  simp only [cSs_append, cSs, cS]
  omega
 ·unfold DL
  dsimp only
  omega
end Go.Proofs.Ytodhbeeibagiaaa.PA

namespace Go.Proofs.Ytodhbeeibagiaaa.PA
set_option linter.unusedSimpArgs false
open Go.RowKit Go.Proofs.YtodhbeeibagiaaaW.PrintWords Go.Proofs.YtodhbeeibagiaaaW.PrintMore Go.Proofs.Ytodhbeeibagiaaa.Core
theorem cT_length (l : List ST) : l.length ≤ cT l := by
 have h := cSs_length (embTs l)
 rw [embTs_length] at h
 exact h
theorem cT_split (l : List ST) (j : Nat) : cT (l.take j) + cT (l.drop j) = cT l := by
 rw [← cT_append, List.take_append_drop]
theorem rdT_nat (l : List ST) (j : Nat) (h : j < l.length) : rd_T35 (embTs l) (j : Int) = embT l[j] := by
 rw [rdS_nat _ j (by rw [embTs_length]; exact h), embTs_get l j h]
theorem pick_eq (kd va bx : Int) (y : X) (hy : y.ok) (b e : List ST) :
  pickT kd va bx y b e = if kd = 2 ∧ (emb y).f0 = 0 ∧ (emb y).f1 ≠ 0 then b else if kd = 2 ∧ (emb y).f0 = 0 then e else if kd = 3 ∧ (emb y).f0 = 0 ∧ (emb y).f1 = 0 then [] else [⟨kd, va, bx, y, b, e⟩] := by
 unfold pickT
 cases y with
 | num n =>
  by_cases h2 : kd = 2
  ·subst h2
   by_cases hn : n = 0 <;> simp [emb, hn]
  ·by_cases h3 : kd = 3
   ·subst h3
    by_cases hn : n = 0 <;> simp [emb, hn]
   ·simp [emb, h2, h3]
 | var v => by_cases h2 : kd = 2 <;> by_cases h3 : kd = 3 <;> simp [emb, h2, h3]
 | bin o p q =>
  have ho : o ≠ 0 := by have := hy.1; omega
  by_cases h2 : kd = 2 <;> by_cases h3 : kd = 3 <;> simp [emb, h2, h3, ho]
theorem impl_stmtsFold_ev : ∀ (c : Nat) (l : List ST), (∀ t ∈ l, AX t) → cT l ≤ c → c ≤ 1000000000 → EvP (fun k => impl_stmtsFold.f k (embTs l)) (· = embTs (foldTs l)) := by
  intro c
  induction c with
  | zero =>
    intro l _ hl hc
    have := cT_length l
    obtain rfl := List.eq_nil_of_length_eq_zero (show l.length = 0 by omega)
    refine EvP.step (fun k => impl_stmtsFold.f.eq_2 (k := k) ..) (EvP.step (fun k => impl_stmtsFold.l0.eq_2 (k := k) ..) (EvP.no (by rw [embTs]; simp) (EvP.ret ?_)))
    rw [foldTs, embTs]
  | succ c ih =>
    intro l ha hl hc
    have hlen := embTs_length l
    have loop : ∀ (r j : Nat) (acc : List ST), j + r = l.length → acc.length + cT (l.drop j) ≤ 2000000000 → EvP (fun k => impl_stmtsFold.l0 k (embTs acc) (embTs l) ((embTs l).length : Int) (j : Int)) (· = embTs (acc ++ foldTs (l.drop j))) := by
      intro r
      induction r with
      | zero =>
        intro j acc hj h1
        refine EvP.step (fun k => impl_stmtsFold.l0.eq_2 (k := k) ..) (EvP.no (by omega) (EvP.ret ?_))
        rw [List.drop_eq_nil_of_le (by omega), foldTs, List.append_nil]
      | succ r ih2 =>
        intro j acc hj h1
        have hlt : j < l.length := by omega
        have hl2 := cT_length l
        have hsp := cT_split l j
        have hd := List.drop_eq_getElem_cons hlt
        have hcd : cT (l.drop j) = cT l[j].b + cT l[j].e + 1 + cT (l.drop (j + 1)) := by rw [hd, cT_cons]
        have hrd := rdT_nat l j hlt
        have hat := ha _ (List.getElem_mem hlt)
        have hft := cT_foldT l[j]
        rw [cT_one] at hft
        have hfl := cT_length (foldT l[j])
        have hb1 := cT_length (foldTs l[j].b)
        have hb2 := cT_foldTs l[j].b
        have he1 := cT_length (foldTs l[j].e)
        have he2 := cT_foldTs l[j].e
        generalize l[j] = t at *
        obtain ⟨hok, _, hab, hae⟩ : t.x.ok ∧ t.x.depth ≤ 5 ∧ (∀ y ∈ t.b, AX y) ∧ (∀ y ∈ t.e, AX y) := by
          cases hat with
          | mk _ a b c d => exact ⟨a, b, c, d⟩
        refine EvP.step (fun k => impl_stmtsFold.l0.eq_2 (k := k) ..) (EvP.yes (by omega) (EvP.yes (by omega) (EvP.yes (by omega) ?_)))
        rw [hrd, embT_f t]
        dsimp only
        refine EvP.bindEq (ih _ hab (by omega) (by omega)) (EvP.bindEq (ih _ hae (by omega) (by omega)) (EvP.bindEq (impl_exprFold_ev _ hok) ?_))
        have hyo := X.fold_ok _ hok
        have hf : foldT t = _ := (foldT_f t).trans (pick_eq _ _ _ _ hyo _ _)
        have next : ∀ p : List ST, foldT t = p → EvP (fun k => impl_stmtsFold.l0 k (embTs acc ++ embTs p) (embTs l) ((embTs l).length : Int) ((j : Int) + 1)) (· = embTs (acc ++ foldTs (l.drop j))) := by
          rintro p rfl
          rw [← embTs_append]
          refine (ih2 (j + 1) (acc ++ foldT t) (by omega) (by rw [List.length_append]; omega)).mono fun b hb => ?_
          rw [hb, hd, foldTs, List.append_assoc]
        have la := embTs_length acc
        have lb := embTs_length (foldTs t.b)
        have le := embTs_length (foldTs t.e)
        dsimp only [tri]
        have one : foldT t = [⟨t.kd, t.va, t.bx, t.x.fold, foldTs t.b, foldTs t.e⟩] → EvP (fun k => impl_stmtsFold.l0 k (embTs acc ++ [(⟨t.kd, t.va, t.bx, ⟨(emb t.x.fold).f0, (emb t.x.fold).f1, (emb t.x.fold).f2⟩, embTs (foldTs t.b), embTs (foldTs t.e)⟩ : S35)]) (embTs l) ((embTs l).length : Int) ((j : Int) + 1)) (· = embTs (acc ++ foldTs (l.drop j))) := by
          intro h
          have h2 := next _ h
          rw [embTs, embTs, embT] at h2
          rw [etaE]
          exact h2
        clear ih ih2
        by_cases h2 : t.kd = 2
        · refine EvP.yes h2 ?_
          by_cases ho : (emb t.x.fold).f0 = 0
          · refine EvP.yes ho (EvP.step (fun k => impl_stmtsFold.j1.eq_2 (k := k) ..) ?_)
            by_cases hn : (emb t.x.fold).f1 = 0
            · refine EvP.no (by simp [hn]) (EvP.yes h2 (EvP.step (fun k => impl_stmtsFold.j2.eq_2 (k := k) ..) (EvP.yes (by simp [ho]) (EvP.yes (by omega) ?_))))
              rw [w64 (n := (j : Int) + 1) (by omega) (by omega)]
              exact next _ (by rw [hf, if_neg (fun e => e.2.2 hn), if_pos ⟨h2, ho⟩])
            · refine EvP.yes (by simp [hn]) (EvP.yes (by omega) ?_)
              rw [w64 (n := (j : Int) + 1) (by omega) (by omega)]
              exact next _ (by rw [hf, if_pos ⟨h2, ho, hn⟩])
          · refine EvP.no ho (EvP.step (fun k => impl_stmtsFold.j1.eq_2 (k := k) ..) (EvP.no (by simp) (EvP.yes h2 (EvP.step (fun k => impl_stmtsFold.j2.eq_2 (k := k) ..) (EvP.no (by simp [ho]) (EvP.no (by omega) (EvP.yes (by omega) ?_)))))))
            rw [w64 (n := (j : Int) + 1) (by omega) (by omega)]
            exact one (by rw [hf, if_neg (fun e => ho e.2.1), if_neg (fun e => ho e.2), if_neg (fun e => ho e.2.1)])
        · refine EvP.no h2 (EvP.step (fun k => impl_stmtsFold.j1.eq_2 (k := k) ..) (EvP.no (by simp) (EvP.no h2 (EvP.step (fun k => impl_stmtsFold.j2.eq_2 (k := k) ..) (EvP.no (by simp) ?_)))))
          rw [w64 (n := (j : Int) + 1) (by omega) (by omega)]
          by_cases h3 : t.kd = 3
          · refine EvP.yes h3 ?_
            by_cases ho : (emb t.x.fold).f0 = 0
            · refine EvP.yes (by simp [ho]) ?_
              by_cases hn : (emb t.x.fold).f1 = 0
              · refine EvP.yes hn ?_
                have h4 := next [] (by rw [hf, if_neg (fun e => h2 e.1), if_neg (fun e => h2 e.1), if_pos ⟨h3, ho, hn⟩])
                rw [embTs, List.append_nil] at h4
                exact h4
              · exact EvP.no hn (EvP.yes (by omega) (one (by rw [hf, if_neg (fun e => h2 e.1), if_neg (fun e => h2 e.1), if_neg (fun e => hn e.2.2)])))
            · exact EvP.no (by simp [ho]) (EvP.yes (by omega) (one (by rw [hf, if_neg (fun e => h2 e.1), if_neg (fun e => h2 e.1), if_neg (fun e => ho e.2.1)])))
          · exact EvP.no h3 (EvP.yes (by omega) (one (by rw [hf, if_neg (fun e => h2 e.1), if_neg (fun e => h2 e.1), if_neg (fun e => h3 e.1)])))
    refine EvP.step (fun k => impl_stmtsFold.f.eq_2 (k := k) ..) ?_
    have h := loop l.length 0 [] (by omega) (by rw [List.drop_zero]; simp; omega)
    rw [List.drop_zero, List.nil_append, embTs] at h
    exact h
theorem spec_l11FoldOne_of (t : ST) (hok : t.x.ok) (hb : EvP (fun k => spec_l11FoldAll.f k (embTs t.b)) (· = embTs (foldTs t.b))) (he : EvP (fun k => spec_l11FoldAll.f k (embTs t.e)) (· = embTs (foldTs t.e))) :
    EvP (fun k => spec_l11FoldOne.f k (embT t)) (· = embTs (foldT t)) := by
  refine EvP.step (fun k => spec_l11FoldOne.f.eq_2 (k := k) ..) ?_
  rw [embT_f t]
  dsimp only
  refine EvP.bindEq (spec_l4Fold_ev _ hok) (EvP.bindEq hb (EvP.bindEq he (EvP.ret ?_)))
  have hyo := X.fold_ok _ hok
  rw [foldT_f, pick_eq _ _ _ _ hyo]
  dsimp only [tri, pickF]
  by_cases h2 : t.kd = 2
  · by_cases ho : (emb t.x.fold).f0 = 0
    · by_cases hn : (emb t.x.fold).f1 = 0 <;> simp [h2, ho, hn]
    · simp [h2, ho, embTs, embT, etaE]
  · by_cases h3 : t.kd = 3
    · by_cases ho : (emb t.x.fold).f0 = 0
      · by_cases hn : (emb t.x.fold).f1 = 0
        · simp [h3, ho, hn, embTs]
        · simp [h3, ho, hn, embTs, embT]
          rw [← ho, etaE]
      · simp [h3, ho, embTs, embT, etaE]
    · simp [h2, h3, embTs, embT, etaE]
theorem spec_l11FoldAll_ev : ∀ (c : Nat) (l : List ST), (∀ t ∈ l, AX t) → cT l ≤ c → c ≤ 1000000000 → EvP (fun k => spec_l11FoldAll.f k (embTs l)) (· = embTs (foldTs l)) := by
  intro c
  induction c with
  | zero =>
    intro l _ hl hc
    have := cT_length l
    obtain rfl := List.eq_nil_of_length_eq_zero (show l.length = 0 by omega)
    refine EvP.step (fun k => spec_l11FoldAll.f.eq_2 (k := k) ..) (EvP.step (fun k => spec_l11FoldAll.l0.eq_2 (k := k) ..) (EvP.no (by rw [embTs]; simp) (EvP.ret ?_)))
    rw [foldTs, embTs]
  | succ c ih =>
    intro l ha hl hc
    have hlen := embTs_length l
    have loop : ∀ (r j : Nat) (acc : List ST), j + r = l.length → acc.length + cT (l.drop j) ≤ 2000000000 → EvP (fun k => spec_l11FoldAll.l0 k (embTs l) (embTs acc) (j : Int)) (· = embTs (acc ++ foldTs (l.drop j))) := by
      intro r
      induction r with
      | zero =>
        intro j acc hj h1
        refine EvP.step (fun k => spec_l11FoldAll.l0.eq_2 (k := k) ..) (EvP.no (by omega) (EvP.ret ?_))
        rw [List.drop_eq_nil_of_le (by omega), foldTs, List.append_nil]
      | succ r ih2 =>
        intro j acc hj h1
        have hlt : j < l.length := by omega
        have hl2 := cT_length l
        have hsp := cT_split l j
        have hd := List.drop_eq_getElem_cons hlt
        have hcd : cT (l.drop j) = cT l[j].b + cT l[j].e + 1 + cT (l.drop (j + 1)) := by rw [hd, cT_cons]
        have hrd := rdT_nat l j hlt
        have hat := ha _ (List.getElem_mem hlt)
        have hft := cT_foldT l[j]
        rw [cT_one] at hft
        have hfl := cT_length (foldT l[j])
        generalize l[j] = t at *
        obtain ⟨hok, _, hab, hae⟩ : t.x.ok ∧ t.x.depth ≤ 5 ∧ (∀ y ∈ t.b, AX y) ∧ (∀ y ∈ t.e, AX y) := by
          cases hat with
          | mk _ a b c d => exact ⟨a, b, c, d⟩
        have la := embTs_length acc
        have lf := embTs_length (foldT t)
        refine EvP.step (fun k => spec_l11FoldAll.l0.eq_2 (k := k) ..) (EvP.yes (by omega) (EvP.yes (by omega) ?_))
        rw [hrd]
        refine EvP.bindEq (spec_l11FoldOne_of t hok (ih _ hab (by omega) (by omega)) (ih _ hae (by omega) (by omega))) (EvP.yes (by omega) ?_)
        rw [w64 (n := (j : Int) + 1) (by omega) (by omega), ← embTs_append]
        refine (ih2 (j + 1) (acc ++ foldT t) (by omega) (by rw [List.length_append]; omega)).mono fun b hb => ?_
        rw [hb, hd, foldTs, List.append_assoc]
    refine EvP.step (fun k => spec_l11FoldAll.f.eq_2 (k := k) ..) ?_
    have h := loop l.length 0 [] (by omega) (by rw [List.drop_zero]; simp; omega)
    rw [List.drop_zero, List.nil_append, embTs] at h
    exact h
theorem impl_StmtsFold_no {l : List S35} (hl : cSs l ≤ 1000000000) (h : okT 3 l = false) : EvP (fun k => impl_StmtsFold.f k l) (· = ([], false)) := by
  unfold impl_StmtsFold.f
  exact EvP.bindEq (impl_StmtsValid_ev l hl) (EvP.no (by rw [h]; simp) (EvP.ret rfl))
theorem spec_StmtsFold_no {l : List S35} (hl : cSs l ≤ 1000000000) (h : okT 3 l = false) : EvP (fun k => spec_StmtsFold.f k l) (· = ([], false)) := by
  unfold spec_StmtsFold.f
  exact EvP.bindEq (spec_StmtsValid_ev l hl) (EvP.no (by rw [h]; simp) (EvP.ret rfl))
theorem impl_StmtsFold_yes (m : List ST) (ha : ∀ t ∈ m, AX t) (h : okT 3 (embTs m) = true) : EvP (fun k => impl_StmtsFold.f k (embTs m)) (· = (embTs (foldTs m), true)) := by
  have hc := (okT_iff.1 h).2
  unfold impl_StmtsFold.f
  exact EvP.bindEq (impl_StmtsValid_ev _ (by omega)) (EvP.yes h (EvP.bindEq (impl_stmtsFold_ev 16 m ha hc (by omega)) (EvP.ret rfl)))
theorem spec_StmtsFold_yes (m : List ST) (ha : ∀ t ∈ m, AX t) (h : okT 3 (embTs m) = true) : EvP (fun k => spec_StmtsFold.f k (embTs m)) (· = (embTs (foldTs m), true)) := by
  have hc := (okT_iff.1 h).2
  unfold spec_StmtsFold.f
  exact EvP.bindEq (spec_StmtsValid_ev _ (by omega)) (EvP.yes h (EvP.bindEq (spec_l11FoldAll_ev 16 m ha hc (by omega)) (EvP.ret rfl)))
theorem sameStmts_ev : ∀ (c : Nat) (l : List ST), cT l ≤ c → c ≤ 1000000000 → EvP (fun k => laws_sameStmts.f k (embTs l) (embTs l)) (· = true) := by
  intro c
  induction c with
  | zero =>
    intro l hl hc
    have := cT_length l
    obtain rfl := List.eq_nil_of_length_eq_zero (show l.length = 0 by omega)
    exact EvP.step (fun k => laws_sameStmts.f.eq_2 (k := k) ..) (EvP.yes rfl (EvP.step (fun k => laws_sameStmts.l0.eq_2 (k := k) ..) (EvP.no (by rw [embTs]; simp) (EvP.ret rfl))))
  | succ c ih =>
    intro l hl hc
    have hlen := embTs_length l
    have loop : ∀ (r j : Nat), j + r = l.length → EvP (fun k => laws_sameStmts.l0 k (embTs l) (embTs l) (j : Int)) (· = true) := by
      intro r
      induction r with
      | zero =>
        intro j hj
        exact EvP.step (fun k => laws_sameStmts.l0.eq_2 (k := k) ..) (EvP.no (by omega) (EvP.ret rfl))
      | succ r ih2 =>
        intro j hj
        have hlt : j < l.length := by omega
        have hl2 := cT_length l
        have hsp := cT_split l j
        have hcd : cT (l.drop j) = cT l[j].b + cT l[j].e + 1 + cT (l.drop (j + 1)) := by rw [List.drop_eq_getElem_cons hlt, cT_cons]
        have hrd := rdT_nat l j hlt
        generalize l[j] = t at *
        refine EvP.step (fun k => laws_sameStmts.l0.eq_2 (k := k) ..) (EvP.yes (by omega) (EvP.yes (by omega) (EvP.yes (by omega) ?_)))
        rw [hrd, embT_f t]
        dsimp only
        refine EvP.yes rfl (EvP.yes rfl (EvP.yes rfl (EvP.bindEq (sameExpr_ev _) ?_)))
        refine EvP.step (fun k => laws_sameStmts.j1.eq_2 (k := k) ..) (EvP.no (by simp) ?_)
        refine EvP.bindEq (ih _ (by omega) (by omega)) (EvP.yes rfl (EvP.bindEq (ih _ (by omega) (by omega)) (EvP.yes rfl ?_)))
        rw [w64 (n := (j : Int) + 1) (by omega) (by omega)]
        exact ih2 (j + 1) (by omega)
    exact EvP.step (fun k => laws_sameStmts.f.eq_2 (k := k) ..) (EvP.yes rfl (loop l.length 0 (by omega)))
theorem sameStmts_0 : EvP (fun k => laws_sameStmts.f k [] []) (· = true) := by
  have h := sameStmts_ev 0 [] (by rw [cT_nil]; omega) (by omega)
  rw [embTs] at h
  exact h
theorem DrawStmtsFold_ev (l : List Int) (hl : l.length ≤ 140737488351232) (hw : ∀ x ∈ l, (Lit.int .u8 x).wf = true) : EvP (fun k => spec_DrawStmtsFold.f k l) (fun r => cSs r ≤ 1000) := by
 obtain ⟨b, hb0, hb⟩ := open_bytes l hl hw
 unfold spec_DrawStmtsFold.f
 refine EvP.bind0 hb0 (EvP.bind (l92Some_ev b hb _ (by dsimp only; omega) (by dsimp only; omega)) fun r hr => ?_)
 obtain ⟨r0, r1, r2⟩ := hr
 dsimp only at r0 r1 ⊢
 refine pick_then hb (by omega) (by omega) fun v v0 v1 _ => ?_
 dsimp only
 refine EvP.ite (fun h => ?_) (fun h => EvP.ret (by omega))
 refine EvP.bind (l92If_ev b hb _ 1 false (by omega) (by omega)) fun i hi => ?_
 obtain ⟨i1, i2, i3, i4, i5, i6, i7, i8, p3⟩ := i
 unfold DS at hi
 dsimp only at hi ⊢
 refine EvP.bind (l91Op_ev b hb _ (by omega) (by omega)) fun q hq => ?_
 obtain ⟨q1, p4⟩ := q
 dsimp only at hq ⊢
 refine pick_then hb (by omega) (by omega) fun a a0 a1 _ => ?_
 dsimp only
 refine pick_then hb (by omega) (by omega) fun b' b0 b1 _ => EvP.ret ?_
 rw [cSs_one, cS_f]
 dsimp only
 omega
theorem folds (l : List S35) : (okT 3 l = false) ∨ ∃ m : List ST, (∀ t ∈ m, AX t) ∧ embTs m = l ∧ okT 3 (embTs m) = true := by
 cases h : okT 3 l with
 | false => exact .inl rfl
 | true =>
  obtain ⟨m, hm, ha⟩ := of_okL 3 3 l (okT_iff.1 h).1
  exact .inr ⟨m, ha, hm, by rw [hm]; exact h⟩
end Go.Proofs.Ytodhbeeibagiaaa.PA

namespace Go.Proofs.Ytodhbeeibagiaaa.Pure
open Go.RowKit Go.Proofs.Ytodhbeeibagiaaa.PA Go.Proofs.YtodhbeeibagiaaaW.PrintWords Go.Proofs.YtodhbeeibagiaaaW.PrintLast Go.Proofs.YtodhbeeibagiaaaW.PrintMore Go.Proofs.Ytodhbeeibagiaaa.Core
def oneT (n : Int) (m : List ST) : List ST := [⟨2, 0, 0, .num n, m, []⟩]
theorem oneT_emb (n : Int) (m : List ST) : embTs (oneT n m) = [(⟨2, 0, 0, ⟨0, n, []⟩, embTs m, []⟩ : S35)] := by
 unfold oneT
 rw [embTs, embTs, embT, embTs]
 rfl
theorem oneT_ok (l : List (S35)) : okT 3 [(⟨2, 0, 0, ⟨0, 1, []⟩, l, []⟩ : S35)] = okT 3 [(⟨2, 0, 0, ⟨0, 0, []⟩, l, []⟩ : S35)] := by
 unfold okT
 rw [cSs_one, cSs_one, cS_f, cS_f]
 rfl
theorem oneT_ax (n : Int) (h0 : 0 ≤ n) (h1 : n ≤ 99999) (m : List ST) (ha : ∀ t ∈ m, AX t) : ∀ t ∈ oneT n m, AX t := by
 intro t ht
 unfold oneT at ht
 rw [List.mem_singleton] at ht
 subst ht
 exact .mk _ ⟨h0, h1⟩ (by simp [X.depth, ST.x]) ha (by simp [ST.e])
theorem oneT_fold1 (m : List ST) : foldTs (oneT 1 m) = foldTs m := by
 unfold oneT
 rw [foldTs, foldTs, foldT, List.append_nil]
 simp [pickT, X.fold]
theorem oneT_fold0 (m : List ST) : foldTs (oneT 0 m) = [] := by
 unfold oneT
 rw [foldTs, foldTs, foldT, List.append_nil]
 simp [pickT, X.fold, foldTs]
theorem FnStmtsFoldOne : laws_FnStmtsFoldOne.Pure := by
 intro l ⟨hl, hw⟩
 refine EvP.ends (r := true) ?_
 unfold laws_FnStmtsFoldOne.f
 refine EvP.ite (fun _ => EvP.ret rfl) (fun _ => ?_)
 refine EvP.bind (DrawStmtsFold_ev l (by omega) hw) fun r hr => ?_
 rcases folds r with h | ⟨m, ha, rfl, h⟩
 ·refine EvP.bindEq (impl_StmtsFold_no (by omega) h) (EvP.bindEq (spec_StmtsFold_no (by omega) h) (EvP.yes rfl (EvP.bindEq sameStmts_0 (EvP.yes rfl ?_))))
  exact EvP.no (by simp) (EvP.ret rfl)
 ·have hc : cT m ≤ 16 := (okT_iff.1 h).2
  have hcf := cT_foldTs m
  refine EvP.bindEq (impl_StmtsFold_yes m ha h) (EvP.bindEq (spec_StmtsFold_yes m ha h) (EvP.yes rfl (EvP.bindEq (sameStmts_ev 16 _ (by omega) (by omega)) (EvP.yes rfl (EvP.yes rfl ?_)))))
  have e10 := oneT_ok (embTs m)
  rw [← oneT_emb 1 m, ← oneT_emb 0 m] at e10 ⊢
  have b1 : cSs (embTs (oneT 1 m)) ≤ 1000000000 := by
   rw [oneT_emb, cSs_one, cS_f]
   dsimp only
   rw [cSs_nil]
   omega
  have b0 : cSs (embTs (oneT 0 m)) ≤ 1000000000 := by
   rw [oneT_emb, cSs_one, cS_f]
   dsimp only
   rw [cSs_nil]
   omega
  cases hv : okT 3 (embTs (oneT 1 m)) with
  | false =>
   rw [hv] at e10
   refine EvP.bindEq (impl_StmtsFold_no b1 hv) (EvP.bindEq (impl_StmtsFold_no b0 e10.symm) (EvP.bindEq (impl_StmtsValid_ev _ b1) ?_))
   exact EvP.no (by rw [hv]; simp) (EvP.yes rfl (EvP.yes rfl (EvP.ret rfl)))
  | true =>
   rw [hv] at e10
   have a1 := oneT_ax 1 (by omega) (by omega) m ha
   have a0 := oneT_ax 0 (by omega) (by omega) m ha
   refine EvP.bindEq (impl_StmtsFold_yes _ a1 hv) (EvP.bindEq (impl_StmtsFold_yes _ a0 e10.symm) (EvP.bindEq (impl_StmtsValid_ev _ b1) ?_))
   refine EvP.yes hv (EvP.yes rfl (EvP.yes rfl ?_))
   dsimp only
   rw [oneT_fold1, oneT_fold0]
   refine EvP.bindEq (sameStmts_ev 16 _ (by omega) (by omega)) (EvP.yes rfl (EvP.ret ?_))
   rw [embTs]
   rfl
end Go.Proofs.Ytodhbeeibagiaaa.Pure


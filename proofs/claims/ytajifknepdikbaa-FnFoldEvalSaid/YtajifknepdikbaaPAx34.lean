-- made by a program of this session (wip/myprint.py over the kit's print)
import Derived.Test.YtajifknepdikbaaV
import Derived.Test.YtajifknepdikbaaPAx0
import Derived.Test.YtajifknepdikbaaPAx1
import Derived.Test.YtajifknepdikbaaPAx18
import Derived.Test.YtajifknepdikbaaPAx23
import Derived.Test.YtajifknepdikbaaPAx33
namespace Go.Proofs.Ytajifknepdikbaa.PA
open Go.RowKit Go.Proofs.YtajifknepdikbaaW.PrintWords Go.Proofs.YtajifknepdikbaaW.PrintLast Go.Proofs.YtajifknepdikbaaW.PrintMore
attribute [local go_sem] max2_int min2_int max_two min_two max_three min_three max_four min_four   -- for this text's walks alone
set_option linter.unusedVariables false
set_option linter.unusedSimpArgs false

/-! ### spec_DrawExprEval: function 31 -/
theorem spec_DrawExprEval.mono : ∀ a0 k, LeO (spec_DrawExprEval.f k a0) (spec_DrawExprEval.f (k + 1) a0) := by
  intro a0 k
  unfold spec_DrawExprEval.f
  repeat' first
      | (with_reducible exact spec_l91Spoilt.mono _ _ _)
      | (with_reducible exact spec_l91Vars.mono _ _ _)
      | (with_reducible exact LeO.refl _)
      | (with_reducible exact LeO.none _)
      | (with_reducible refine LeO.ite ?_ ?_)
      | (with_reducible refine LeO.bind ?_ (fun _ => ?_))
      | exact spec_l91Spoilt.mono _ _ _
      | exact spec_l91Vars.mono _ _ _
      | exact LeO.none _
      | refine LeO.ite ?_ ?_
      | refine LeO.bind ?_ (fun _ => ?_)
set_option maxHeartbeats 8000000 in
set_option maxRecDepth 100000 in
theorem spec_DrawExprEval.calls (k : Nat) (A0 : Option Addr) (c0 : Nat) (l0 : List Int) (r1 : Int) (r2 : Int) (r3 : List (S25)) (r4 : List Int) (w : World) (hr0 : Kd.C (Kd.int .u8) w A0 l0.length l0) (hc0 : l0.length ≤ c0) (h : spec_DrawExprEval.f k l0 = some (r1, r2, r3, r4)) :
    Calls Try.prog 31 #[.slice A0 l0.length c0] w fun e w' => ∃ v2_ v3_ : Value, e = .returned (.tuple #[.agg #[.int .i64 r1, .int .i64 r2, v2_], v3_]) ∧ Kd.N k25 25 w' w.heap.size (fun k_ => (w.heap.size ≤ k_) ∧ some k_ ≠ (v3_ : Value).ownBlock) v2_ r3 ∧ Kd.R (Kd.int .i64) 3 w' w.heap.size (fun k_ => (w.heap.size ≤ k_)) v3_ r4 ∧ Below w.heap.size w w' := by
  have hu25 := Try.underlying25
  have HR0 := Aside0.mk hr0
  have HC0 := Aside0.mk hc0
  clear hr0 hc0
  have HB := Aside0.mk (Below.refl w.heap.size w)
  have H : ((spec_l6Open.f l0).bind fun bt514 => ((spec_l91Spoilt.f k bt514.1 bt514.2).bind fun bt517 => ((spec_l91Vars.f k bt514.1 bt517.2.2.2).bind fun bt524 => (some (bt517.1, bt517.2.1, bt517.2.2.1, bt524.1))))) = some (r1, r2, r3, r4) := h
  clear h
  replace H := Option.bind_eq_some_iff.mp H
  obtain ⟨⟨t514, t515⟩, A20, H⟩ := H
  replace H : ((spec_l91Spoilt.f k t514 t515).bind fun bt517 => ((spec_l91Vars.f k t514 bt517.2.2.2).bind fun bt524 => (some (bt517.1, bt517.2.1, bt517.2.2.1, bt524.1)))) = some (r1, r2, r3, r4) := H
  have A2 := Aside0.mk A20
  clear A20
  replace H := Option.bind_eq_some_iff.mp H
  obtain ⟨⟨t517, t518, t519, t522⟩, A30, H⟩ := H
  replace H : ((spec_l91Vars.f k t514 t522).bind fun bt524 => (some (t517, t518, t519, bt524.1))) = some (r1, r2, r3, r4) := H
  have A3 := Aside0.mk A30
  clear A30
  replace H := Option.bind_eq_some_iff.mp H
  obtain ⟨⟨t524, t527⟩, A40, H⟩ := H
  replace H : (some (t517, t518, t519, t524)) = some (r1, r2, r3, r4) := H
  have A4 := Aside0.mk A40
  clear A40
  simp only [Option.some.injEq, Prod.mk.injEq] at H
  obtain ⟨rfl, rfl, rfl, rfl⟩ := H
  go_enter Try.func31, Try.ntmps31
  try go_wp2_with (first | ((with_reducible refine gate_dst (N := 2) rfl ?_); refine box_event ?hg (N := 2) ?hd (cs := #[.int .i64 0, .int .i64 0, .slice none 0 0]) (t := 25) ?hr ?_; (case hd => rfl); (case hg => rfl); (case hr => first | (go_simp; done) | (go_simp; rfl)); intro gb513 hg w5 hbox hb; have n0_ := Aside0.mk (below_step ab2_ hb); have n1_ := Aside0.mk (hbox); have n2_ := Aside0.mk ((by rw [hg]; exact (below_size ab2_) : w.heap.size ≤ gb513)); have n3_ := Aside0.mk ((by rw [hg]; exact (below_size ab2_) : w.heap.size ≤ gb513)); clear HB; have HB := n0_; have BK513 := n1_; have GW513 := n2_; have GE513 := n3_; clear n0_ n1_ n2_ n3_; clear hb hbox hg) | ((with_reducible refine gate_callee (f := 39) rfl ?_); refine goesL_ (some 7) rfl rfl Try.func39 (by kernel_rfl) rfl #[.slice A0 l0.length c0] rfl ab1_ ?_; (with_reducible refine (spec_l6Open.calls _ _ l0 t514 t515 w _ ?side1 ?side2 ?side3 A2.out).mono ?_); (case side1 => repeat (first | (with_reducible first | exact HB.out | apply below_alloc | apply pw_below_drewN | apply below_drew1 | refine below_set ?_ GE513.out) | exact HB.out)); (case side2 => exact HR0.out); (case side3 => exact HC0.out); rintro e w6 ⟨g516, rfl, hi, hb, hb2⟩; refine ⟨_, rfl, ?_⟩; have n0_ := Aside0.mk (blk_below (g := gb513) (o := .cells #[.int .i64 0, .int .i64 0, .slice none 0 0] 25 (0, 0)) (aG_ BK513.out) hb2); have n1_ := Aside0.mk (hb); have n2_ := Aside0.mk (hi); have n3_ := Aside0.mk (IsS74.ne_blk hi (blk_below (g := gb513) (o := .cells #[.int .i64 0, .int .i64 0, .slice none 0 0] 25 (0, 0)) (aG_ BK513.out) hb2) (by decide)); have n4_ := Aside0.mk (Ne.symm (IsS74.ne_blk hi (blk_below (g := gb513) (o := .cells #[.int .i64 0, .int .i64 0, .slice none 0 0] 25 (0, 0)) (aG_ BK513.out) hb2) (by decide))); clear BK513; clear HB; have BK513 := n0_; have HB := n1_; have HI516 := n2_; have NB516_513 := n3_; have NB513_516 := n4_; clear n0_ n1_ n2_ n3_ n4_; (try clear hb); (try clear hb2); (try clear hk); (try clear hi)) | ((with_reducible refine gate_callee (f := 44) rfl ?_); refine goesL_ (some 9) rfl rfl Try.func44 (by kernel_rfl) rfl #[.pointer (some ⟨g516, 0, none⟩)] rfl ab1_ ?_; (with_reducible refine (spec_l91Spoilt.calls k g516 t514 t515 t517 t518 t519 t522 w _ ?side1 ?side2 A3.out).mono ?_); (case side1 => repeat (first | (with_reducible first | exact HI516.out | apply IsS74.alloc | apply IsS74.drewN | apply IsS74.drew | apply IsS74.set_1 | refine IsS74.far ?_ NB516_513.out _) | exact HI516.out)); (case side2 => repeat (first | (with_reducible first | exact HB.out | apply below_alloc | apply pw_below_drewN | apply below_drew1 | refine below_set ?_ (IsS74.ge HI516.out) | refine below_set ?_ GE513.out) | exact HB.out)); rintro e w7 ⟨v520, rfl, ho0, hi, hb, hk⟩; refine ⟨_, rfl, ?_⟩; have n0_ := Aside0.mk (KeepBut.blk hk (g' := gb513) (o := .cells #[.int .i64 0, .int .i64 0, .slice none 0 0] 25 (0, 0)) (aG_ BK513.out) NB513_516.out (by simp)); have n1_ := Aside0.mk (Kd.N_lower (Kd.N_mono (ok' := fun k_ => (w.heap.size ≤ k_) ∧ k_ ≠ gb513 ∧ k_ ≠ g516) ho0 (fun k_ hk_ => ⟨(Nat.le_trans (below_size ab41_) hk_), (Kd.freshB (g := gb513) (o := .cells #[.int .i64 0, .int .i64 0, .slice none 0 0] 25 (0, 0)) (aG_ BK513.out) k_ hk_), (IsS74.fresh ab67_ k_ hk_)⟩)) (below_size ab41_)); have n2_ := Aside0.mk (hb); have n3_ := Aside0.mk (hi); clear BK513; clear HB; clear HI516; have BK513 := n0_; have HO521 := n1_; have HB := n2_; have HI516 := n3_; clear n0_ n1_ n2_ n3_; (try clear hb); (try clear hb2); (try clear hk); (try clear hi); (try clear ho0)) | ((with_reducible refine gate_dst (N := 5) rfl ?_); refine box_event ?hg (N := 5) ?hd (cs := #[.int .i64 0, .int .i64 0, .slice none 0 0]) (t := 25) ?hr ?_; (case hd => rfl); (case hg => rfl); (case hr => first | (go_simp; done) | (go_simp; rfl)); intro gb523 hg w8 hbox hb; have n0_ := Aside0.mk (Kd.N_below (Kd.N_elderB (aN_ HO521.out) gb523 (Nat.le_of_eq hg.symm)) hb); have n1_ := Aside0.mk (blk_below (g := gb513) (o := .cells #[.int .i64 0, .int .i64 0, .slice none 0 0] 25 (0, 0)) (aG_ BK513.out) hb); have n2_ := Aside0.mk (IsS74.below ab67_ hb); have n3_ := Aside0.mk (below_step ab41_ hb); have n4_ := Aside0.mk (hbox); have n5_ := Aside0.mk ((by rw [hg]; exact (below_size ab41_) : w.heap.size ≤ gb523)); have n6_ := Aside0.mk ((by rw [hg]; exact (below_size ab41_) : w.heap.size ≤ gb523)); have n7_ := Aside0.mk ((by rw [hg]; exact Nat.ne_of_lt (blk_lt (g := gb513) (o := .cells #[.int .i64 0, .int .i64 0, .slice none 0 0] 25 (0, 0)) (aG_ BK513.out)) : gb513 ≠ gb523)); have n8_ := Aside0.mk ((by rw [hg]; exact Nat.ne_of_gt (blk_lt (g := gb513) (o := .cells #[.int .i64 0, .int .i64 0, .slice none 0 0] 25 (0, 0)) (aG_ BK513.out)) : gb523 ≠ gb513)); have n9_ := Aside0.mk ((by rw [hg]; exact Nat.ne_of_lt (IsS74.lt (show IsS74 w _ g516 t514 t522 from by repeat (first | (with_reducible first | exact HI516.out | apply IsS74.alloc | apply IsS74.drewN | apply IsS74.drew | apply IsS74.set_1 | refine IsS74.far ?_ NB516_513.out _) | exact HI516.out))) : g516 ≠ gb523)); have n10_ := Aside0.mk ((by rw [hg]; exact Nat.ne_of_gt (IsS74.lt (show IsS74 w _ g516 t514 t522 from by repeat (first | (with_reducible first | exact HI516.out | apply IsS74.alloc | apply IsS74.drewN | apply IsS74.drew | apply IsS74.set_1 | refine IsS74.far ?_ NB516_513.out _) | exact HI516.out))) : gb523 ≠ g516)); clear HO521; clear BK513; clear HI516; clear HB; have HO521 := n0_; have BK513 := n1_; have HI516 := n2_; have HB := n3_; have BK523 := n4_; have GW523 := n5_; have GE523 := n6_; have NB513_523 := n7_; have NB523_513 := n8_; have NB516_523 := n9_; have NB523_516 := n10_; clear n0_ n1_ n2_ n3_ n4_ n5_ n6_ n7_ n8_ n9_ n10_; clear hb hbox hg; have hnb9 := NB523_513.out; have hnc9 := NB513_523.out; have hnb10 := NB523_516.out; have hnc10 := NB516_523.out; have hcz11_0 : w8.cell? ⟨gb523, 0, none⟩ = some (.int .i64 0) := (blk_cell BK523.out 0).trans rfl; have hcz11_1 : w8.cell? ⟨gb523, 1, none⟩ = some (.int .i64 0) := (blk_cell BK523.out 1).trans rfl; have hcz11_2 : w8.cell? ⟨gb523, 2, none⟩ = some (.slice none 0 0) := (blk_cell BK523.out 2).trans rfl; have hfz11_0 := blk_frozen BK523.out 0; have hfz11_1 := blk_frozen BK523.out 1; have hfz11_2 := blk_frozen BK523.out 2; obtain ⟨Ao12, co12, eo12⟩ := Kd.N_slice HO521.out; subst eo12))
  have n0_ : Aside0 (Kd.N k25 25 (((w8.setCell ⟨gb523, 0, none⟩ (.int .i64 t517)).setCell ⟨gb523, 1, none⟩ (.int .i64 t518)).setCell ⟨gb523, 2, none⟩ (.slice Ao12 t519.length co12)) w.heap.size (fun k_ => (w.heap.size ≤ k_) ∧ k_ ≠ gb513 ∧ k_ ≠ g516 ∧ k_ ≠ gb523) (.slice Ao12 t519.length co12) t519) := ⟨by (with_reducible repeat (first | apply Kd.N_alloc | apply Kd.N_drewN | apply Kd.N_drew)); exact Kd.N_mono (Kd.N_far (p := ⟨gb523, 2, none⟩) (Kd.N_far (p := ⟨gb523, 1, none⟩) (Kd.N_far (p := ⟨gb523, 0, none⟩) (Kd.N_mono HO521.out (fun k_ hk => (⟨hk, hk.2⟩ : _ ∧ k_ ≠ gb523))) (fun _ hk => hk.2) (.int .i64 t517)) (fun _ hk => hk.2) (.int .i64 t518)) (fun _ hk => hk.2) (.slice Ao12 t519.length co12)) (fun _ hk => ⟨hk.1.1.1, ⟨hk.1.1.2.1, ⟨hk.1.1.2.2, hk.1.2⟩⟩⟩)⟩
  have n1_ : Aside0 ((((w8.setCell ⟨gb523, 0, none⟩ (.int .i64 t517)).setCell ⟨gb523, 1, none⟩ (.int .i64 t518)).setCell ⟨gb523, 2, none⟩ (.slice Ao12 t519.length co12)).heap[gb513]? = some (.cells #[.int .i64 0, .int .i64 0, .slice none 0 0] 25 (0, 0))) := ⟨by (with_reducible repeat (first | refine blk_drewN ?_ _ | refine blk_drew ?_ | refine blk_alloc ?_ _)); refine blk_far ?_ NB513_523.out _; (with_reducible repeat (first | refine blk_drewN ?_ _ | refine blk_drew ?_ | refine blk_alloc ?_ _)); refine blk_far ?_ NB513_523.out _; (with_reducible repeat (first | refine blk_drewN ?_ _ | refine blk_drew ?_ | refine blk_alloc ?_ _)); refine blk_far ?_ NB513_523.out _; (with_reducible repeat (first | refine blk_drewN ?_ _ | refine blk_drew ?_ | refine blk_alloc ?_ _)); exact BK513.out⟩
  have n2_ : Aside0 ((((w8.setCell ⟨gb523, 0, none⟩ (.int .i64 t517)).setCell ⟨gb523, 1, none⟩ (.int .i64 t518)).setCell ⟨gb523, 2, none⟩ (.slice Ao12 t519.length co12)).heap[gb523]? = some (.cells #[.int .i64 t517, .int .i64 t518, .slice Ao12 t519.length co12] 25 (0, 0))) := ⟨by (with_reducible repeat (first | refine blk_drewN ?_ _ | refine blk_drew ?_ | refine blk_alloc ?_ _)); refine blk_put (cs := #[.int .i64 t517, .int .i64 t518, .slice none 0 0]) ?_ 2 _ rfl; (with_reducible repeat (first | refine blk_drewN ?_ _ | refine blk_drew ?_ | refine blk_alloc ?_ _)); refine blk_put (cs := #[.int .i64 t517, .int .i64 0, .slice none 0 0]) ?_ 1 _ rfl; (with_reducible repeat (first | refine blk_drewN ?_ _ | refine blk_drew ?_ | refine blk_alloc ?_ _)); refine blk_put (cs := #[.int .i64 0, .int .i64 0, .slice none 0 0]) ?_ 0 _ rfl; (with_reducible repeat (first | refine blk_drewN ?_ _ | refine blk_drew ?_ | refine blk_alloc ?_ _)); exact BK523.out⟩
  have n3_ : Aside0 (IsS74 w (((w8.setCell ⟨gb523, 0, none⟩ (.int .i64 t517)).setCell ⟨gb523, 1, none⟩ (.int .i64 t518)).setCell ⟨gb523, 2, none⟩ (.slice Ao12 t519.length co12)) g516 t514 t522) := ⟨by repeat (first | (with_reducible first | exact HI516.out | apply IsS74.alloc | apply IsS74.drewN | apply IsS74.drew | apply IsS74.set_1 | refine IsS74.far ?_ NB516_513.out _ | refine IsS74.far ?_ NB516_523.out _) | exact HI516.out)⟩
  have n4_ : Aside0 (Below w.heap.size w (((w8.setCell ⟨gb523, 0, none⟩ (.int .i64 t517)).setCell ⟨gb523, 1, none⟩ (.int .i64 t518)).setCell ⟨gb523, 2, none⟩ (.slice Ao12 t519.length co12))) := ⟨ab48_⟩
  (try clear HO521)
  (try clear BK513)
  (try clear BK523)
  (try clear HI516)
  (try clear HB)
  generalize (((w8.setCell ⟨gb523, 0, none⟩ (.int .i64 t517)).setCell ⟨gb523, 1, none⟩ (.int .i64 t518)).setCell ⟨gb523, 2, none⟩ (.slice Ao12 t519.length co12)) = w13 at n0_ n1_ n2_ n3_ n4_ ⊢
  have HO521 := n0_
  have BK513 := n1_
  have BK523 := n2_
  have HI516 := n3_
  have HB := n4_
  clear n0_ n1_ n2_ n3_ n4_
  have n0_ := Aside0.mk (Kd.N_drew HO521.out)
  have n1_ := Aside0.mk (blk_drew BK513.out)
  have n2_ := Aside0.mk (blk_drew BK523.out)
  have n3_ := Aside0.mk (IsS74.drew HI516.out)
  have n4_ := Aside0.mk (below_drew1 HB.out)
  clear HO521
  clear BK513
  clear BK523
  clear HI516
  clear HB
  have HO521 := n0_
  have BK513 := n1_
  have BK523 := n2_
  have HI516 := n3_
  have HB := n4_
  clear n0_ n1_ n2_ n3_ n4_
  refine start_ (n := 5) (S := fun w' => w'.cell? ⟨gb523, 0, none⟩ = some (.int .i64 t517) ∧ w'.cell? ⟨gb523, 1, none⟩ = some (.int .i64 t518) ∧ w'.cell? ⟨gb523, 2, none⟩ = some (.slice Ao12 t519.length co12)) (ds := []) #[false, false, false, false, false] (by kernel_rfl) rfl rfl ⟨(blk_cell BK523.out 0).trans rfl, (blk_cell BK523.out 1).trans rfl, (blk_cell BK523.out 2).trans rfl⟩ (fun hHeld => ?_)
  generalize w13.drew = w14 at HO521 BK513 BK523 HI516 HB hHeld ⊢
  refine pure_ (i := 1) (N := some 11) (v := ?_) (a' := ?_) #[false, true, false, false, false] rfl rfl (by kernel_rfl) (fun _ _ _ h => h) (Or.inl ⟨by rfl, ?_⟩) ?_ ?_
  rotate_left
  · intro w'
    go_simp
    with_reducible rfl
  rotate_left
  · simp only [Act.put, List.setIfInBounds_toArray, List.set_cons_zero, List.set_cons_succ, i64_w, i32_w]
    rfl
  refine take_ (i := 0) (N := some 10) (v := ?_) (a' := ?_) #[true, true, false, false, false] rfl rfl (by kernel_rfl) (fun _ _ _ h => h) (Or.inl ⟨by rfl, ?_⟩) hHeld ?_ ?_
  rotate_left
  · rintro w' ⟨s0, s1, s2⟩
    go_simp
    with_reducible rfl
  rotate_left
  · simp only [Act.put, List.setIfInBounds_toArray, List.set_cons_zero, List.set_cons_succ, i64_w, i32_w]
    rfl
  refine one_ (i := 2) (N := some 12) #[true, true, true, false, false] rfl rfl (by kernel_rfl) (by decide) (fun K hK => ?_)
  refine goes_ Try.func59 (by kernel_rfl) rfl #[.pointer (some ⟨g516, 0, none⟩)] (by rfl) rfl rfl ab1_ ?_
  with_reducible refine (spec_l91Vars.calls k g516 t514 t522 t524 t527 w _ ?side1 ?side2 A4.out).mono ?_
  (case side1 => repeat (first | (with_reducible first | exact HI516.out | apply IsS74.alloc | apply IsS74.drewN | apply IsS74.drew | apply IsS74.set_1 | refine IsS74.far ?_ NB516_513.out _ | refine IsS74.far ?_ NB516_523.out _) | exact HI516.out))
  (case side2 => repeat (first | (with_reducible first | exact HB.out | apply below_alloc | apply pw_below_drewN | apply below_drew1 | refine below_set ?_ (IsS74.ge HI516.out) | refine below_set ?_ GE513.out | refine below_set ?_ GE523.out) | exact HB.out))
  rintro e w15 ⟨v525, rfl, ho0, hi, hb, hk⟩
  refine ⟨_, rfl, ?_⟩
  have n0_ := Aside0.mk (KeepBut.blk hk (g' := gb513) (o := .cells #[.int .i64 0, .int .i64 0, .slice none 0 0] 25 (0, 0)) (aG_ BK513.out) NB513_516.out (by simp))
  have n1_ := Aside0.mk (Kd.N_mono (Kd.N_told (Kd.N_oldK (Kd.N_mono (ok := fun k_ => (((w.heap.size ≤ k_)) ∧ (k_ ≠ gb513 ∧ (k_ ≠ g516 ∧ k_ ≠ gb523)))) (aN_ HO521.out) (fun k_ hk_ => (⟨hk_, hk_.2.2.1⟩ : _ ∧ k_ ≠ g516))) hk) (Kd.R_base ho0)) (fun _ h_ => h_.1))
  have n2_ := Aside0.mk (KeepBut.blk hk (g' := gb523) (o := .cells #[.int .i64 t517, .int .i64 t518, .slice Ao12 t519.length co12] 25 (0, 0)) (aG_ BK523.out) NB523_516.out (by simp))
  have n3_ := Aside0.mk (Kd.R_lower (Kd.R_newM (M := fun k_ => (w.heap.size ≤ k_)) ho0 (below_size ab48_) (fun k_ h_ => h_)) (below_size ab48_))
  have n4_ := Aside0.mk (hb)
  have n5_ := Aside0.mk (hi)
  clear BK513
  clear HO521
  clear BK523
  clear HB
  clear HI516
  have BK513 := n0_
  have HO521 := n1_
  have BK523 := n2_
  have HO526 := n3_
  have HB := n4_
  have HI516 := n5_
  clear n0_ n1_ n2_ n3_ n4_ n5_
  (try clear hb)
  (try clear hb2)
  (try clear hk)
  (try clear hi)
  (try clear ho0)
  refine hK.out _ _ ⟨(blk_cell BK523.out 0).trans rfl, (blk_cell BK523.out 1).trans rfl, (blk_cell BK523.out 2).trans rfl⟩ (fun hHeld => ?_)
  clear hK K
  refine norm_ (a' := ?_) ?_ ?_
  rotate_left
  · show Act.put _ (some 12) _ = _
    simp only [Act.put, List.setIfInBounds_toArray, List.set_cons_zero, List.set_cons_succ, i64_w, i32_w]
    rfl
  refine one_ (i := 3) (N := none) #[true, true, true, true, false] rfl rfl (by kernel_rfl) (by decide) (fun K hK => ?_)
  have hs16 : w15.cell? ⟨gb513, 0, none⟩ = some (.int .i64 0) := (blk_cell BK513.out 0).trans rfl
  have hfs16 := blk_frozen BK513.out 0
  have hns16_1 := NB523_513.out
  have hms16_1 := NB513_523.out
  have hs17 : w15.cell? ⟨gb513, 1, none⟩ = some (.int .i64 0) := (blk_cell BK513.out 1).trans rfl
  have hfs17 := blk_frozen BK513.out 1
  have hns17_1 := NB523_513.out
  have hms17_1 := NB513_523.out
  have hs18 : w15.cell? ⟨gb513, 2, none⟩ = some (.slice none 0 0) := (blk_cell BK513.out 2).trans rfl
  have hfs18 := blk_frozen BK513.out 2
  have hns18_1 := NB523_513.out
  have hms18_1 := NB513_523.out
  refine skip_ (w1 := ?_) (by rfl) rfl ?_ ?_
  rotate_left
  · go_simp
    rfl
  refine hK.out _ _ ⟨((cell_far (p := ⟨gb513, _, none⟩) NB523_513.out _).trans (((cell_far (p := ⟨gb513, _, none⟩) NB523_513.out _).trans (((cell_far (p := ⟨gb513, _, none⟩) NB523_513.out _).trans (hHeld.1)))))), ((cell_far (p := ⟨gb513, _, none⟩) NB523_513.out _).trans (((cell_far (p := ⟨gb513, _, none⟩) NB523_513.out _).trans (((cell_far (p := ⟨gb513, _, none⟩) NB523_513.out _).trans (hHeld.2.1)))))), ((cell_far (p := ⟨gb513, _, none⟩) NB523_513.out _).trans (((cell_far (p := ⟨gb513, _, none⟩) NB523_513.out _).trans (((cell_far (p := ⟨gb513, _, none⟩) NB523_513.out _).trans (hHeld.2.2))))))⟩ (fun hHeld => ?_)
  clear hK K
  refine pure_ (i := 4) (N := some 3) (v := ?_) (a' := ?_) #[true, true, true, true, true] rfl rfl (by kernel_rfl) (fun _ _ _ h => h) (Or.inl ⟨by rfl, ?_⟩) ?_ ?_
  rotate_left
  · intro w'
    go_simp
    with_reducible rfl
  rotate_left
  · simp only [Act.put, List.setIfInBounds_toArray, List.set_cons_zero, List.set_cons_succ, i64_w, i32_w]
    rfl
  refine done_ (by kernel_rfl) ?_
  try go_wp2
  refine bodyPost_ret (results_ct rfl _ _ gb513 25 #[.int .i64 t517, .int .i64 t518, .slice Ao12 t519.length co12] (0, 0) _ rfl (by (with_reducible repeat (first | refine blk_drewN ?_ _ | refine blk_drew ?_ | refine blk_alloc ?_ _)); refine blk_put (cs := #[.int .i64 t517, .int .i64 t518, .slice none 0 0]) ?_ 2 _ rfl; (with_reducible repeat (first | refine blk_drewN ?_ _ | refine blk_drew ?_ | refine blk_alloc ?_ _)); refine blk_put (cs := #[.int .i64 t517, .int .i64 0, .slice none 0 0]) ?_ 1 _ rfl; (with_reducible repeat (first | refine blk_drewN ?_ _ | refine blk_drew ?_ | refine blk_alloc ?_ _)); refine blk_put (cs := #[.int .i64 0, .int .i64 0, .slice none 0 0]) ?_ 0 _ rfl; (with_reducible repeat (first | refine blk_drewN ?_ _ | refine blk_drew ?_ | refine blk_alloc ?_ _)); exact BK513.out) Try.underlying25 rfl (by kernel_rfl)) rfl ?_
  exact ⟨_, _, ab20_, by (with_reducible repeat (first | apply Kd.N_alloc | apply Kd.N_drewN | apply Kd.N_drew)); exact Kd.N_mono (Kd.N_far (p := ⟨gb513, 2, none⟩) (Kd.N_far (p := ⟨gb513, 1, none⟩) (Kd.N_far (p := ⟨gb513, 0, none⟩) (Kd.N_mono HO521.out (fun k_ hk => (⟨hk, hk.1.2.1⟩ : _ ∧ k_ ≠ gb513))) (fun _ hk => hk.2) (.int .i64 t517)) (fun _ hk => hk.2) (.int .i64 t518)) (fun _ hk => hk.2) (.slice Ao12 t519.length co12)) (fun _ hk => ⟨hk.1.1.1, hk.1.2⟩), by (with_reducible repeat (first | apply Kd.R_alloc | apply Kd.R_drewN | apply Kd.R_drew)); exact Kd.R_mono (Kd.R_far (p := ⟨gb513, 2, none⟩) (Kd.R_far (p := ⟨gb513, 1, none⟩) (Kd.R_far (p := ⟨gb513, 0, none⟩) (Kd.R_types HO526.out BK513.out (by decide)) (fun _ hk => hk.2) (.int .i64 t517)) (fun _ hk => hk.2) (.int .i64 t518)) (fun _ hk => hk.2) (.slice Ao12 t519.length co12)) (fun _ hk => hk.1.1), ab48_⟩

end Go.Proofs.Ytajifknepdikbaa.PA

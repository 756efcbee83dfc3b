-- made by a program of this session (wip/myprint.py over the kit's print)
import Derived.Test.YtpifdlpieglhlaaV
import Derived.Test.YtpifdlpieglhlaaPAx0
import Derived.Test.YtpifdlpieglhlaaPAx1
import Derived.Test.YtpifdlpieglhlaaPAx46
import Derived.Test.YtpifdlpieglhlaaPAx47
import Derived.Test.YtpifdlpieglhlaaPAx52
import Derived.Test.YtpifdlpieglhlaaPAx55
namespace Go.Proofs.Ytpifdlpieglhlaa.PA
open Go.RowKit Go.Proofs.YtpifdlpieglhlaaW.PrintWords Go.Proofs.YtpifdlpieglhlaaW.PrintLast Go.Proofs.YtpifdlpieglhlaaW.PrintMore
attribute [local go_sem] max2_int min2_int max_two min_two max_three min_three max_four min_four   -- for this text's walks alone
set_option linter.unusedVariables false
set_option linter.unusedSimpArgs false

/-! ### spec_l92If: function 40 -/
def spec_l92If.T3 : Bool × List (List Nat × List Nat) := (true, [([], []), ([], []), ([], []), ([], []), ([], []), ([4], [4]), ([], []), ([6], [6]), ([], []), ([2, 3, 5, 7, 8, 7], [2, 3, 5, 7, 8]), ([0, 1, 9], [0, 1, 9]), ([10, 9, 0, 1, 2, 3, 4, 5, 6, 7, 8, 9, 10], [10])])
def spec_l92If.B3 : List Nat := [0, 0, 0, 0, 0, 16, 0, 64, 0, 508, 1023, 2047]
theorem spec_l92If.tab3 : rtab .any (opsOf Try.f40 3) = spec_l92If.T3 := by kernel_rfl
theorem spec_l92If.bits3 : waitsOk spec_l92If.T3.2 spec_l92If.B3 = true := by kernel_rfl
set_option maxHeartbeats 8000000 in
set_option maxRecDepth 100000 in
theorem spec_l92If.step (k : Nat) (ih_spec_l92If : ∀ m, m < k → spec_l92If.CallsAt m) (ih_spec_l92Loop : ∀ m, m < k → spec_l92Loop.CallsAt m) (ih_spec_l92Stmt : ∀ m, m < k → spec_l92Stmt.CallsAt m) (ih_spec_l92Block : ∀ m, m < k → spec_l92Block.CallsAt m) : spec_l92If.CallsAt k := by
  intro g s0_0 s0_1 a1 a2 a3 r1 r2 r3 r4 r5 r6 r7 r8 r9 w0 w hI hB h
  cases k with
  | zero => exact absurd h (by simp [spec_l92If.f])
  | succ k =>
  simp only [spec_l92If.f] at h
  have hu36 := Try.underlying36
  have hu34 := Try.underlying34
  have HI0 := Aside0.mk hI
  have HK := Aside0.mk (KeepBut.refl w g none)
  have HL := Aside0.mk hB.size
  clear hI
  have HW0 := Aside0.mk hB.size
  have HB := Aside0.mk hB
  clear hB
  have H : ((spec_l6Rd_pick.f k s0_0 s0_1 2).bind fun bt327 => ((spec_l91Expr.f k s0_0 bt327.2 (wrap64 (1 + bt327.1))).bind fun bt329 => ((spec_l6Rd_pick.f k s0_0 bt329.2.2.2 3).bind fun bt336 => ((spec_l92Block.f k s0_0 bt336.2 a1 (wrap64 (a2 - 1)) bt336.1 a3).bind fun bt338 => ((spec_l6Rd_pick.f k s0_0 bt338.2 3).bind fun bt342 => ((spec_l92Block.f k s0_0 bt342.2 a1 (wrap64 (a2 - 1)) bt342.1 a3).bind fun bt344 => (some (2, 0, 0, bt329.1, bt329.2.1, bt329.2.2.1, bt338.1, bt344.1, bt344.2)))))))) = some (r1, r2, r3, r4, r5, r6, r7, r8, r9) := h
  clear h
  replace H := Option.bind_eq_some_iff.mp H
  obtain ⟨⟨t327, t328⟩, A50, H⟩ := H
  replace H : ((spec_l91Expr.f k s0_0 t328 (wrap64 (1 + t327))).bind fun bt329 => ((spec_l6Rd_pick.f k s0_0 bt329.2.2.2 3).bind fun bt336 => ((spec_l92Block.f k s0_0 bt336.2 a1 (wrap64 (a2 - 1)) bt336.1 a3).bind fun bt338 => ((spec_l6Rd_pick.f k s0_0 bt338.2 3).bind fun bt342 => ((spec_l92Block.f k s0_0 bt342.2 a1 (wrap64 (a2 - 1)) bt342.1 a3).bind fun bt344 => (some (2, 0, 0, bt329.1, bt329.2.1, bt329.2.2.1, bt338.1, bt344.1, bt344.2))))))) = some (r1, r2, r3, r4, r5, r6, r7, r8, r9) := H
  have A5 := Aside0.mk A50
  clear A50
  replace H := Option.bind_eq_some_iff.mp H
  obtain ⟨⟨t329, t330, t331, t334⟩, A60, H⟩ := H
  replace H : ((spec_l6Rd_pick.f k s0_0 t334 3).bind fun bt336 => ((spec_l92Block.f k s0_0 bt336.2 a1 (wrap64 (a2 - 1)) bt336.1 a3).bind fun bt338 => ((spec_l6Rd_pick.f k s0_0 bt338.2 3).bind fun bt342 => ((spec_l92Block.f k s0_0 bt342.2 a1 (wrap64 (a2 - 1)) bt342.1 a3).bind fun bt344 => (some (2, 0, 0, t329, t330, t331, bt338.1, bt344.1, bt344.2)))))) = some (r1, r2, r3, r4, r5, r6, r7, r8, r9) := H
  have A6 := Aside0.mk A60
  clear A60
  replace H := Option.bind_eq_some_iff.mp H
  obtain ⟨⟨t336, t337⟩, A70, H⟩ := H
  replace H : ((spec_l92Block.f k s0_0 t337 a1 (wrap64 (a2 - 1)) t336 a3).bind fun bt338 => ((spec_l6Rd_pick.f k s0_0 bt338.2 3).bind fun bt342 => ((spec_l92Block.f k s0_0 bt342.2 a1 (wrap64 (a2 - 1)) bt342.1 a3).bind fun bt344 => (some (2, 0, 0, t329, t330, t331, bt338.1, bt344.1, bt344.2))))) = some (r1, r2, r3, r4, r5, r6, r7, r8, r9) := H
  have A7 := Aside0.mk A70
  clear A70
  replace H := Option.bind_eq_some_iff.mp H
  obtain ⟨⟨t338, t341⟩, A80, H⟩ := H
  replace H : ((spec_l6Rd_pick.f k s0_0 t341 3).bind fun bt342 => ((spec_l92Block.f k s0_0 bt342.2 a1 (wrap64 (a2 - 1)) bt342.1 a3).bind fun bt344 => (some (2, 0, 0, t329, t330, t331, t338, bt344.1, bt344.2)))) = some (r1, r2, r3, r4, r5, r6, r7, r8, r9) := H
  have A8 := Aside0.mk A80
  clear A80
  replace H := Option.bind_eq_some_iff.mp H
  obtain ⟨⟨t342, t343⟩, A90, H⟩ := H
  replace H : ((spec_l92Block.f k s0_0 t343 a1 (wrap64 (a2 - 1)) t342 a3).bind fun bt344 => (some (2, 0, 0, t329, t330, t331, t338, bt344.1, bt344.2))) = some (r1, r2, r3, r4, r5, r6, r7, r8, r9) := H
  have A9 := Aside0.mk A90
  clear A90
  replace H := Option.bind_eq_some_iff.mp H
  obtain ⟨⟨t344, t347⟩, A100, H⟩ := H
  replace H : (some (2, 0, 0, t329, t330, t331, t338, t344, t347)) = some (r1, r2, r3, r4, r5, r6, r7, r8, r9) := H
  have A10 := Aside0.mk A100
  clear A100
  simp only [Option.some.injEq, Prod.mk.injEq] at H
  obtain ⟨rfl, rfl, rfl, rfl, rfl, rfl, rfl, rfl, rfl⟩ := H
  go_enter Try.func40, Try.ntmps40
  try go_wp2_with (first | ((with_reducible refine gate_dst (N := 8) rfl ?_); refine box_event ?hg (N := 8) ?hd (cs := #[.int .i64 0, .int .i64 0, .int .i64 0, .int .i64 0, .int .i64 0, .slice none 0 0, .slice none 0 0, .slice none 0 0]) (t := 36) ?hr ?_; (case hd => rfl); (case hg => rfl); (case hr => first | (go_simp; done) | (go_simp; rfl)); intro gb326 hg w11 hbox hb; have n0_ := Aside0.mk (IsS61.below ab4_ hb); have n1_ := Aside0.mk (KeepBut.trans ab3_ (KeepBut.of_below hb g none) (.inl rfl)); have n2_ := Aside0.mk (below_step ab5_ hb); have n3_ := Aside0.mk (hbox); have n4_ := Aside0.mk ((by rw [hg]; exact (keep_size (w := w) (g := g) (row := none) ab3_) : w.heap.size ≤ gb326)); have n5_ := Aside0.mk ((Nat.le_trans HW0.out (by rw [hg]; exact (keep_size (w := w) (g := g) (row := none) ab3_) : w.heap.size ≤ gb326) : w0.heap.size ≤ gb326)); have n6_ := Aside0.mk ((by rw [hg]; exact Nat.ne_of_lt (IsS61.lt (show IsS61 w0 _ g s0_0 s0_1 from by repeat (first | (with_reducible first | exact HI0.out | apply IsS61.alloc | apply IsS61.drewN | apply IsS61.drew | apply IsS61.set_1) | exact HI0.out))) : g ≠ gb326)); have n7_ := Aside0.mk ((by rw [hg]; exact Nat.ne_of_gt (IsS61.lt (show IsS61 w0 _ g s0_0 s0_1 from by repeat (first | (with_reducible first | exact HI0.out | apply IsS61.alloc | apply IsS61.drewN | apply IsS61.drew | apply IsS61.set_1) | exact HI0.out))) : gb326 ≠ g)); clear HI0; clear HK; clear HB; have HI0 := n0_; have HK := n1_; have HB := n2_; have BK326 := n3_; have GW326 := n4_; have GE326 := n5_; have NB0_326 := n6_; have NB326_0 := n7_; clear n0_ n1_ n2_ n3_ n4_ n5_ n6_ n7_; clear hb hbox hg) | ((with_reducible refine gate_callee (f := 30) rfl ?_); refine goesL_ (some 13) rfl rfl Try.func30 (by kernel_rfl) rfl #[.pointer (some ⟨g, 0, none⟩), .int .i64 2] rfl ab2_ ?_; (with_reducible refine (spec_l6Rd_pick.calls k g s0_0 s0_1 2 t327 t328 w0 _ ?side1 ?side2 A5.out).mono ?_); (case side1 => repeat (first | (with_reducible first | exact HI0.out | apply IsS61.alloc | apply IsS61.drewN | apply IsS61.drew | apply IsS61.set_1 | refine IsS61.far ?_ NB0_326.out _) | exact HI0.out)); (case side2 => repeat (first | (with_reducible first | exact HB.out | apply below_alloc | apply pw_below_drewN | apply below_drew1 | refine below_set ?_ (IsS61.ge HI0.out) | refine below_set ?_ GE326.out) | exact HB.out)); rintro e w12 ⟨rfl, hi, hb, hk⟩; refine ⟨_, rfl, ?_⟩; have n0_ := Aside0.mk (KeepBut.blk hk (g' := gb326) (o := .cells #[.int .i64 0, .int .i64 0, .int .i64 0, .int .i64 0, .int .i64 0, .slice none 0 0, .slice none 0 0, .slice none 0 0] 36 (0, 0)) (aG_ BK326.out) NB326_0.out (by simp)); have n1_ := Aside0.mk (KeepBut.trans ab28_ hk (.inl rfl)); have n2_ := Aside0.mk (hb); have n3_ := Aside0.mk (hi); clear BK326; clear HK; clear HB; clear HI0; have BK326 := n0_; have HK := n1_; have HB := n2_; have HI0 := n3_; clear n0_ n1_ n2_ n3_; (try clear hb); (try clear hb2); (try clear hk); (try clear hi)) | ((with_reducible refine gate_callee (f := 51) rfl ?_); refine goesL_ (some 15) rfl rfl Try.func51 (by kernel_rfl) rfl #[.pointer (some ⟨g, 0, none⟩), .int .i64 (wrap64 (1 + t327))] rfl ab2_ ?_; (with_reducible refine (spec_l91Expr.calls k g s0_0 t328 (wrap64 (1 + t327)) t329 t330 t331 t334 w0 _ ?side1 ?side2 A6.out).mono ?_); (case side1 => repeat (first | (with_reducible first | exact HI0.out | apply IsS61.alloc | apply IsS61.drewN | apply IsS61.drew | apply IsS61.set_1 | refine IsS61.far ?_ NB0_326.out _) | exact HI0.out)); (case side2 => repeat (first | (with_reducible first | exact HB.out | apply below_alloc | apply pw_below_drewN | apply below_drew1 | refine below_set ?_ (IsS61.ge HI0.out) | refine below_set ?_ GE326.out) | exact HB.out)); rintro e w13 ⟨v332, rfl, ho0, hi, hb, hk⟩; refine ⟨_, rfl, ?_⟩; have n0_ := Aside0.mk (KeepBut.blk hk (g' := gb326) (o := .cells #[.int .i64 0, .int .i64 0, .int .i64 0, .int .i64 0, .int .i64 0, .slice none 0 0, .slice none 0 0, .slice none 0 0] 36 (0, 0)) (aG_ BK326.out) NB326_0.out (by simp)); have n1_ := Aside0.mk (Kd.N_lower (Kd.N_mono (ok' := fun k_ => (w.heap.size ≤ k_) ∧ k_ ≠ gb326 ∧ k_ ≠ g) ho0 (fun k_ hk_ => ⟨(Nat.le_trans (keep_size (w := w) (g := g) (row := none) ab28_) hk_), (Kd.freshB (g := gb326) (o := .cells #[.int .i64 0, .int .i64 0, .int .i64 0, .int .i64 0, .int .i64 0, .slice none 0 0, .slice none 0 0, .slice none 0 0] 36 (0, 0)) (aG_ BK326.out) k_ hk_), (IsS61.fresh ab60_ k_ hk_)⟩)) (keep_size (w := w) (g := g) (row := none) ab28_)); have n2_ := Aside0.mk (KeepBut.trans ab28_ hk (.inl rfl)); have n3_ := Aside0.mk (hb); have n4_ := Aside0.mk (hi); clear BK326; clear HK; clear HB; clear HI0; have BK326 := n0_; have HO333 := n1_; have HK := n2_; have HB := n3_; have HI0 := n4_; clear n0_ n1_ n2_ n3_ n4_; (try clear hb); (try clear hb2); (try clear hk); (try clear hi); (try clear ho0)) | ((with_reducible refine gate_dst (N := 9) rfl ?_); refine box_event ?hg (N := 9) ?hd (cs := #[.int .i64 0, .int .i64 0, .slice none 0 0]) (t := 34) ?hr ?_; (case hd => rfl); (case hg => rfl); (case hr => first | (go_simp; done) | (go_simp; rfl)); intro gb335 hg w14 hbox hb; have n0_ := Aside0.mk (Kd.N_below (Kd.N_elderB (aN_ HO333.out) gb335 (Nat.le_of_eq hg.symm)) hb); have n1_ := Aside0.mk (IsS61.below ab60_ hb); have n2_ := Aside0.mk (blk_below (g := gb326) (o := .cells #[.int .i64 0, .int .i64 0, .int .i64 0, .int .i64 0, .int .i64 0, .slice none 0 0, .slice none 0 0, .slice none 0 0] 36 (0, 0)) (aG_ BK326.out) hb); have n3_ := Aside0.mk (KeepBut.trans ab28_ (KeepBut.of_below hb g none) (.inl rfl)); have n4_ := Aside0.mk (below_step (by repeat (first | (with_reducible first | exact HB.out | apply below_alloc | apply pw_below_drewN | apply below_drew1 | refine below_set ?_ (IsS61.ge HI0.out) | refine below_set ?_ GE326.out) | exact HB.out)) hb); have n5_ := Aside0.mk (hbox); have n6_ := Aside0.mk ((by rw [hg]; exact (keep_size (w := w) (g := g) (row := none) ab28_) : w.heap.size ≤ gb335)); have n7_ := Aside0.mk ((Nat.le_trans HW0.out (by rw [hg]; exact (keep_size (w := w) (g := g) (row := none) ab28_) : w.heap.size ≤ gb335) : w0.heap.size ≤ gb335)); have n8_ := Aside0.mk ((by rw [hg]; exact Nat.ne_of_lt (blk_lt (g := gb326) (o := .cells #[.int .i64 0, .int .i64 0, .int .i64 0, .int .i64 0, .int .i64 0, .slice none 0 0, .slice none 0 0, .slice none 0 0] 36 (0, 0)) (aG_ BK326.out)) : gb326 ≠ gb335)); have n9_ := Aside0.mk ((by rw [hg]; exact Nat.ne_of_gt (blk_lt (g := gb326) (o := .cells #[.int .i64 0, .int .i64 0, .int .i64 0, .int .i64 0, .int .i64 0, .slice none 0 0, .slice none 0 0, .slice none 0 0] 36 (0, 0)) (aG_ BK326.out)) : gb335 ≠ gb326)); have n10_ := Aside0.mk ((by rw [hg]; exact Nat.ne_of_lt (IsS61.lt (show IsS61 w0 _ g s0_0 t334 from by repeat (first | (with_reducible first | exact HI0.out | apply IsS61.alloc | apply IsS61.drewN | apply IsS61.drew | apply IsS61.set_1 | refine IsS61.far ?_ NB0_326.out _) | exact HI0.out))) : g ≠ gb335)); have n11_ := Aside0.mk ((by rw [hg]; exact Nat.ne_of_gt (IsS61.lt (show IsS61 w0 _ g s0_0 t334 from by repeat (first | (with_reducible first | exact HI0.out | apply IsS61.alloc | apply IsS61.drewN | apply IsS61.drew | apply IsS61.set_1 | refine IsS61.far ?_ NB0_326.out _) | exact HI0.out))) : gb335 ≠ g)); clear HO333; clear HI0; clear BK326; clear HK; clear HB; have HO333 := n0_; have HI0 := n1_; have BK326 := n2_; have HK := n3_; have HB := n4_; have BK335 := n5_; have GW335 := n6_; have GE335 := n7_; have NB326_335 := n8_; have NB335_326 := n9_; have NB0_335 := n10_; have NB335_0 := n11_; clear n0_ n1_ n2_ n3_ n4_ n5_ n6_ n7_ n8_ n9_ n10_ n11_; clear hb hbox hg; have hnb15 := NB335_326.out; have hnc15 := NB326_335.out; have hnb16 := NB335_0.out; have hnc16 := NB0_335.out; have hcz17_0 : w14.cell? ⟨gb335, 0, none⟩ = some (.int .i64 0) := (blk_cell BK335.out 0).trans rfl; have hcz17_1 : w14.cell? ⟨gb335, 1, none⟩ = some (.int .i64 0) := (blk_cell BK335.out 1).trans rfl; have hcz17_2 : w14.cell? ⟨gb335, 2, none⟩ = some (.slice none 0 0) := (blk_cell BK335.out 2).trans rfl; have hfz17_0 := blk_frozen BK335.out 0; have hfz17_1 := blk_frozen BK335.out 1; have hfz17_2 := blk_frozen BK335.out 2; obtain ⟨Ao18, co18, eo18⟩ := Kd.N_slice HO333.out; subst eo18) | ((with_reducible refine gate_callee (f := 30) rfl ?_); refine goesL_ (some 21) rfl rfl Try.func30 (by kernel_rfl) rfl #[.pointer (some ⟨g, 0, none⟩), .int .i64 3] rfl ab2_ ?_; (with_reducible refine (spec_l6Rd_pick.calls k g s0_0 t334 3 t336 t337 w0 _ ?side1 ?side2 A7.out).mono ?_); (case side1 => repeat (first | (with_reducible first | exact HI0.out | apply IsS61.alloc | apply IsS61.drewN | apply IsS61.drew | apply IsS61.set_1 | refine IsS61.far ?_ NB0_326.out _ | refine IsS61.far ?_ NB0_335.out _) | exact HI0.out)); (case side2 => repeat (first | (with_reducible first | exact HB.out | apply below_alloc | apply pw_below_drewN | apply below_drew1 | refine below_set ?_ (IsS61.ge HI0.out) | refine below_set ?_ GE326.out | refine below_set ?_ GE335.out) | exact HB.out)); rintro e w19 ⟨rfl, hi, hb, hk⟩; refine ⟨_, rfl, ?_⟩; have n0_ := Aside0.mk (KeepBut.blk hk (g' := gb326) (o := .cells #[.int .i64 0, .int .i64 0, .int .i64 0, .int .i64 0, .int .i64 0, .slice none 0 0, .slice none 0 0, .slice none 0 0] 36 (0, 0)) (by (with_reducible repeat (first | refine blk_drewN ?_ _ | refine blk_drew ?_ | refine blk_alloc ?_ _)); refine blk_far ?_ NB326_335.out _; (with_reducible repeat (first | refine blk_drewN ?_ _ | refine blk_drew ?_ | refine blk_alloc ?_ _)); refine blk_far ?_ NB326_335.out _; (with_reducible repeat (first | refine blk_drewN ?_ _ | refine blk_drew ?_ | refine blk_alloc ?_ _)); refine blk_far ?_ NB326_335.out _; (with_reducible repeat (first | refine blk_drewN ?_ _ | refine blk_drew ?_ | refine blk_alloc ?_ _)); exact BK326.out) NB326_0.out (by simp)); have n1_ := Aside0.mk (Kd.N_mono (Kd.N_keep (Kd.N_mono (ok := fun k_ => ((((w.heap.size ≤ k_)) ∧ (k_ ≠ gb326 ∧ k_ ≠ g)) ∧ k_ ≠ gb335)) (by (with_reducible repeat (first | apply Kd.N_alloc | apply Kd.N_drewN | apply Kd.N_drew)); exact (Kd.N_mono (Kd.N_far (p := ⟨gb335, 2, none⟩) (Kd.N_far (p := ⟨gb335, 1, none⟩) (Kd.N_far (p := ⟨gb335, 0, none⟩) (Kd.N_mono HO333.out (fun k_ hk => (⟨hk, hk.2⟩ : _ ∧ k_ ≠ gb335))) (fun _ hk => hk.2) (.int .i64 t329)) (fun _ hk => hk.2) (.int .i64 t330)) (fun _ hk => hk.2) (.slice Ao18 t331.length co18)) (fun _ h_ => h_.1))) (fun k_ hk_ => (⟨hk_, hk_.1.2.2⟩ : _ ∧ k_ ≠ g))) hk (fun _ h => h.2)) (fun _ h => h.1)); have n2_ := Aside0.mk (KeepBut.blk hk (g' := gb335) (o := .cells #[.int .i64 t329, .int .i64 t330, .slice Ao18 t331.length co18] 34 (0, 0)) (by (with_reducible repeat (first | refine blk_drewN ?_ _ | refine blk_drew ?_ | refine blk_alloc ?_ _)); refine blk_put (cs := #[.int .i64 t329, .int .i64 t330, .slice none 0 0]) ?_ 2 _ rfl; (with_reducible repeat (first | refine blk_drewN ?_ _ | refine blk_drew ?_ | refine blk_alloc ?_ _)); refine blk_put (cs := #[.int .i64 t329, .int .i64 0, .slice none 0 0]) ?_ 1 _ rfl; (with_reducible repeat (first | refine blk_drewN ?_ _ | refine blk_drew ?_ | refine blk_alloc ?_ _)); refine blk_put (cs := #[.int .i64 0, .int .i64 0, .slice none 0 0]) ?_ 0 _ rfl; (with_reducible repeat (first | refine blk_drewN ?_ _ | refine blk_drew ?_ | refine blk_alloc ?_ _)); exact BK335.out) NB335_0.out (by simp)); have n3_ := Aside0.mk (KeepBut.trans ab20_ hk (.inl rfl)); have n4_ := Aside0.mk (hb); have n5_ := Aside0.mk (hi); clear BK326; clear HO333; clear BK335; clear HK; clear HB; clear HI0; have BK326 := n0_; have HO333 := n1_; have BK335 := n2_; have HK := n3_; have HB := n4_; have HI0 := n5_; clear n0_ n1_ n2_ n3_ n4_ n5_; (try clear hb); (try clear hb2); (try clear hk); (try clear hi)) | ((with_reducible refine gate_callee (f := 49) rfl ?_); refine goesL_ (some 23) rfl rfl Try.func49 (by kernel_rfl) rfl #[.pointer (some ⟨g, 0, none⟩), .int .i64 a1, .int .i64 (wrap64 (a2 - 1)), .int .i64 t336, .bool a3] rfl ab2_ ?_; (with_reducible refine (ih_spec_l92Block k (by omega) g s0_0 t337 a1 (wrap64 (a2 - 1)) t336 a3 t338 t341 w0 _ ?side1 ?side2 A8.out).mono ?_); (case side1 => repeat (first | (with_reducible first | exact HI0.out | apply IsS61.alloc | apply IsS61.drewN | apply IsS61.drew | apply IsS61.set_1 | refine IsS61.far ?_ NB0_326.out _ | refine IsS61.far ?_ NB0_335.out _) | exact HI0.out)); (case side2 => repeat (first | (with_reducible first | exact HB.out | apply below_alloc | apply pw_below_drewN | apply below_drew1 | refine below_set ?_ (IsS61.ge HI0.out) | refine below_set ?_ GE326.out | refine below_set ?_ GE335.out) | exact HB.out)); rintro e w20 ⟨v339, rfl, ho0, hi, hb, hk⟩; refine ⟨_, rfl, ?_⟩; have n0_ := Aside0.mk (KeepBut.blk hk (g' := gb326) (o := .cells #[.int .i64 0, .int .i64 0, .int .i64 0, .int .i64 0, .int .i64 0, .slice none 0 0, .slice none 0 0, .slice none 0 0] 36 (0, 0)) (aG_ BK326.out) NB326_0.out (by simp)); have n1_ := Aside0.mk (Kd.N_mono (Kd.N_told (Kd.N_oldK (Kd.N_mono (ok := fun k_ => ((((w.heap.size ≤ k_)) ∧ (k_ ≠ gb326 ∧ k_ ≠ g)) ∧ k_ ≠ gb335)) (aN_ HO333.out) (fun k_ hk_ => (⟨hk_, hk_.1.2.2⟩ : _ ∧ k_ ≠ g))) hk) (by first | exact Kd.N_base ho0 | exact Kd.N_base (Kd.R_N ho0))) (fun _ h_ => h_.1)); have n2_ := Aside0.mk (KeepBut.blk hk (g' := gb335) (o := .cells #[.int .i64 t329, .int .i64 t330, .slice Ao18 t331.length co18] 34 (0, 0)) (aG_ BK335.out) NB335_0.out (by simp)); have n3_ := Aside0.mk (Kd.N_lower (Kd.N_mono (ok' := fun k_ => (w.heap.size ≤ k_) ∧ some k_ ≠ (.slice Ao18 t331.length co18 : Value).ownBlock ∧ k_ ≠ gb326 ∧ k_ ≠ gb335 ∧ k_ ≠ g) ho0 (fun k_ hk_ => ⟨(Nat.le_trans (keep_size (w := w) (g := g) (row := none) ab20_) hk_), (Kd.fresh' (Kd.N_lt (aN_ HO333.out)) k_ hk_), (Kd.freshB (g := gb326) (o := .cells #[.int .i64 0, .int .i64 0, .int .i64 0, .int .i64 0, .int .i64 0, .slice none 0 0, .slice none 0 0, .slice none 0 0] 36 (0, 0)) (aG_ BK326.out) k_ hk_), (Kd.freshB (g := gb335) (o := .cells #[.int .i64 t329, .int .i64 t330, .slice Ao18 t331.length co18] 34 (0, 0)) (aG_ BK335.out) k_ hk_), (IsS61.fresh ab43_ k_ hk_)⟩)) (keep_size (w := w) (g := g) (row := none) ab20_)); have n4_ := Aside0.mk (KeepBut.trans ab20_ hk (.inl rfl)); have n5_ := Aside0.mk (hb); have n6_ := Aside0.mk (hi); clear BK326; clear HO333; clear BK335; clear HK; clear HB; clear HI0; have BK326 := n0_; have HO333 := n1_; have BK335 := n2_; have HO340 := n3_; have HK := n4_; have HB := n5_; have HI0 := n6_; clear n0_ n1_ n2_ n3_ n4_ n5_ n6_; (try clear hb); (try clear hb2); (try clear hk); (try clear hi); (try clear ho0)))
  have n0_ := Aside0.mk (Kd.N_drew HO333.out)
  have n1_ := Aside0.mk (Kd.N_drew HO340.out)
  have n2_ := Aside0.mk (blk_drew BK326.out)
  have n3_ := Aside0.mk (blk_drew BK335.out)
  have n4_ := Aside0.mk (IsS61.drew HI0.out)
  have n5_ := Aside0.mk (keep_drew HK.out)
  have n6_ := Aside0.mk (below_drew1 HB.out)
  clear HO333
  clear HO340
  clear BK326
  clear BK335
  clear HI0
  clear HK
  clear HB
  have HO333 := n0_
  have HO340 := n1_
  have BK326 := n2_
  have BK335 := n3_
  have HI0 := n4_
  have HK := n5_
  have HB := n6_
  clear n0_ n1_ n2_ n3_ n4_ n5_ n6_
  refine start_ (n := 12) (S := fun w' => w'.cell? ⟨gb335, 0, none⟩ = some (.int .i64 t329) ∧ w'.cell? ⟨gb335, 1, none⟩ = some (.int .i64 t330) ∧ w'.cell? ⟨gb335, 2, none⟩ = some (.slice Ao18 t331.length co18)) (ds := []) #[false, false, false, false, false, false, false, false, false, false, false, false] (by kernel_rfl) rfl rfl ⟨(blk_cell BK335.out 0).trans rfl, (blk_cell BK335.out 1).trans rfl, (blk_cell BK335.out 2).trans rfl⟩ (fun hHeld => ?_); refine with_tabW spec_l92If.tab3 spec_l92If.bits3 (fun HT_ HW_ => ?_)
  generalize w20.drew = w21 at HO333 HO340 BK326 BK335 HI0 HK HB hHeld ⊢
  refine pure_ (i := 1) (N := some 25) (v := ?_) (a' := ?_) #[false, true, false, false, false, false, false, false, false, false, false, false] rfl rfl (any_of HT_.out (by kernel_rfl)) (fun _ _ _ h => h) (Or.inl ⟨by rfl, ?_⟩) ?_ ?_
  rotate_left
  · intro w'
    go_simp
    with_reducible rfl
  rotate_left
  · simp only [Act.put, List.setIfInBounds_toArray, List.set_cons_zero, List.set_cons_succ, i64_w, i32_w]
    rfl
  refine pure_ (i := 2) (N := some 26) (v := ?_) (a' := ?_) #[false, true, true, false, false, false, false, false, false, false, false, false] rfl rfl (any_of HT_.out (by kernel_rfl)) (fun _ _ _ h => h) (Or.inl ⟨by rfl, ?_⟩) ?_ ?_
  rotate_left
  · intro w'
    go_simp
    with_reducible rfl
  rotate_left
  · simp only [Act.put, List.setIfInBounds_toArray, List.set_cons_zero, List.set_cons_succ, i64_w, i32_w]
    rfl
  refine pure_ (i := 3) (N := some 27) (v := ?_) (a' := ?_) #[false, true, true, true, false, false, false, false, false, false, false, false] rfl rfl (any_of HT_.out (by kernel_rfl)) (fun _ _ _ h => h) (Or.inl ⟨by rfl, ?_⟩) ?_ ?_
  rotate_left
  · intro w'
    go_simp
    with_reducible rfl
  rotate_left
  · simp only [Act.put, List.setIfInBounds_toArray, List.set_cons_zero, List.set_cons_succ, i64_w, i32_w]
    rfl
  refine pure_ (i := 4) (N := some 28) (v := ?_) (a' := ?_) #[false, true, true, true, true, false, false, false, false, false, false, false] rfl rfl (any_of HT_.out (by kernel_rfl)) (fun _ _ _ h => h) (Or.inl ⟨by rfl, ?_⟩) ?_ ?_
  rotate_left
  · intro w'
    go_simp
    with_reducible rfl
  rotate_left
  · simp only [Act.put, List.setIfInBounds_toArray, List.set_cons_zero, List.set_cons_succ, i64_w, i32_w]
    rfl
  refine pure_ (i := 5) (N := some 29) (v := ?_) (a' := ?_) #[false, true, true, true, true, true, false, false, false, false, false, false] rfl rfl (any_of HT_.out (by kernel_rfl)) (fun _ _ _ h => h) (Or.inl ⟨by rfl, ?_⟩) ?_ ?_
  rotate_left
  · intro w'
    go_simp
    with_reducible rfl
  rotate_left
  · simp only [Act.put, List.setIfInBounds_toArray, List.set_cons_zero, List.set_cons_succ, i64_w, i32_w]
    rfl
  refine pure_ (i := 6) (N := some 30) (v := ?_) (a' := ?_) #[false, true, true, true, true, true, true, false, false, false, false, false] rfl rfl (any_of HT_.out (by kernel_rfl)) (fun _ _ _ h => h) (Or.inl ⟨by rfl, ?_⟩) ?_ ?_
  rotate_left
  · intro w'
    go_simp
    with_reducible rfl
  rotate_left
  · simp only [Act.put, List.setIfInBounds_toArray, List.set_cons_zero, List.set_cons_succ, i64_w, i32_w]
    rfl
  refine pure_ (i := 8) (N := some 32) (v := ?_) (a' := ?_) #[false, true, true, true, true, true, true, false, true, false, false, false] rfl rfl (any_of HT_.out (by kernel_rfl)) (fun _ _ _ h => h) (Or.inl ⟨by rfl, ?_⟩) ?_ ?_
  rotate_left
  · intro w'
    go_simp
    with_reducible rfl
  rotate_left
  · simp only [Act.put, List.setIfInBounds_toArray, List.set_cons_zero, List.set_cons_succ, i64_w, i32_w]
    rfl
  refine take_ (i := 0) (N := some 24) (v := ?_) (a' := ?_) #[true, true, true, true, true, true, true, false, true, false, false, false] rfl rfl (take_ofW HT_.out HW_.out (by kernel_rfl)) (fun _ _ _ h => h) (Or.inl ⟨by rfl, ?_⟩) hHeld ?_ ?_
  rotate_left
  · rintro w' ⟨s0, s1, s2⟩
    go_simp
    with_reducible rfl
  rotate_left
  · simp only [Act.put, List.setIfInBounds_toArray, List.set_cons_zero, List.set_cons_succ, i64_w, i32_w]
    rfl
  refine one_ (i := 7) (N := some 31) #[true, true, true, true, true, true, true, true, true, false, false, false] rfl rfl (one_of HT_.out (by kernel_rfl)) (by decide) (fun K hK => ?_)
  refine goes_ Try.func30 (by kernel_rfl) rfl #[.pointer (some ⟨g, 0, none⟩), .int .i64 3] (by rfl) rfl rfl ab2_ ?_
  with_reducible refine (spec_l6Rd_pick.calls k g s0_0 t341 3 t342 t343 w0 _ ?side1 ?side2 A9.out).mono ?_
  (case side1 => repeat (first | (with_reducible first | exact HI0.out | apply IsS61.alloc | apply IsS61.drewN | apply IsS61.drew | apply IsS61.set_1 | refine IsS61.far ?_ NB0_326.out _ | refine IsS61.far ?_ NB0_335.out _) | exact HI0.out))
  (case side2 => repeat (first | (with_reducible first | exact HB.out | apply below_alloc | apply pw_below_drewN | apply below_drew1 | refine below_set ?_ (IsS61.ge HI0.out) | refine below_set ?_ GE326.out | refine below_set ?_ GE335.out) | exact HB.out))
  rintro e w22 ⟨rfl, hi, hb, hk⟩
  refine ⟨_, rfl, ?_⟩
  have n0_ := Aside0.mk (KeepBut.blk hk (g' := gb326) (o := .cells #[.int .i64 0, .int .i64 0, .int .i64 0, .int .i64 0, .int .i64 0, .slice none 0 0, .slice none 0 0, .slice none 0 0] 36 (0, 0)) (aG_ BK326.out) NB326_0.out (by simp))
  have n1_ := Aside0.mk (Kd.N_mono (Kd.N_keep (Kd.N_mono (ok := fun k_ => (((((w.heap.size ≤ k_)) ∧ (k_ ≠ gb326 ∧ k_ ≠ g)) ∧ k_ ≠ gb335) ∧ some k_ ≠ (v339 : Value).ownBlock)) (aN_ HO333.out) (fun k_ hk_ => (⟨hk_, hk_.1.1.2.2⟩ : _ ∧ k_ ≠ g))) hk (fun _ h => h.2)) (fun _ h => h.1))
  have n2_ := Aside0.mk (KeepBut.blk hk (g' := gb335) (o := .cells #[.int .i64 t329, .int .i64 t330, .slice Ao18 t331.length co18] 34 (0, 0)) (aG_ BK335.out) NB335_0.out (by simp))
  have n3_ := Aside0.mk (Kd.N_mono (Kd.N_keep (Kd.N_mono (ok := fun k_ => (((w.heap.size ≤ k_)) ∧ (some k_ ≠ (.slice Ao18 t331.length co18 : Value).ownBlock ∧ (k_ ≠ gb326 ∧ (k_ ≠ gb335 ∧ k_ ≠ g))))) (aN_ HO340.out) (fun k_ hk_ => (⟨hk_, hk_.2.2.2.2⟩ : _ ∧ k_ ≠ g))) hk (fun _ h => h.2)) (fun _ h => h.1))
  have n4_ := Aside0.mk (KeepBut.trans ab20_ hk (.inl rfl))
  have n5_ := Aside0.mk (hb)
  have n6_ := Aside0.mk (hi)
  clear BK326
  clear HO333
  clear BK335
  clear HO340
  clear HK
  clear HB
  clear HI0
  have BK326 := n0_
  have HO333 := n1_
  have BK335 := n2_
  have HO340 := n3_
  have HK := n4_
  have HB := n5_
  have HI0 := n6_
  clear n0_ n1_ n2_ n3_ n4_ n5_ n6_
  (try clear hb)
  (try clear hb2)
  (try clear hk)
  (try clear hi)
  refine hK.out _ _ ⟨(blk_cell BK335.out 0).trans rfl, (blk_cell BK335.out 1).trans rfl, (blk_cell BK335.out 2).trans rfl⟩ (fun hHeld => ?_)
  clear hK K
  refine norm_ (a' := ?_) ?_ ?_
  rotate_left
  · show Act.put _ (some 31) _ = _
    simp only [Act.put, List.setIfInBounds_toArray, List.set_cons_zero, List.set_cons_succ, i64_w, i32_w]
    rfl
  refine one_ (i := 9) (N := some 33) #[true, true, true, true, true, true, true, true, true, true, false, false] rfl rfl (one_of HT_.out (by kernel_rfl)) (by decide) (fun K hK => ?_)
  refine goes_ Try.func49 (by kernel_rfl) rfl #[.pointer (some ⟨g, 0, none⟩), .int .i64 a1, .int .i64 (wrap64 (a2 - 1)), .int .i64 t342, .bool a3] (by rfl) rfl rfl ab2_ ?_
  with_reducible refine (ih_spec_l92Block k (by omega) g s0_0 t343 a1 (wrap64 (a2 - 1)) t342 a3 t344 t347 w0 _ ?side1 ?side2 A10.out).mono ?_
  (case side1 => repeat (first | (with_reducible first | exact HI0.out | apply IsS61.alloc | apply IsS61.drewN | apply IsS61.drew | apply IsS61.set_1 | refine IsS61.far ?_ NB0_326.out _ | refine IsS61.far ?_ NB0_335.out _) | exact HI0.out))
  (case side2 => repeat (first | (with_reducible first | exact HB.out | apply below_alloc | apply pw_below_drewN | apply below_drew1 | refine below_set ?_ (IsS61.ge HI0.out) | refine below_set ?_ GE326.out | refine below_set ?_ GE335.out) | exact HB.out))
  rintro e w23 ⟨v345, rfl, ho0, hi, hb, hk⟩
  refine ⟨_, rfl, ?_⟩
  have n0_ := Aside0.mk (KeepBut.blk hk (g' := gb326) (o := .cells #[.int .i64 0, .int .i64 0, .int .i64 0, .int .i64 0, .int .i64 0, .slice none 0 0, .slice none 0 0, .slice none 0 0] 36 (0, 0)) (aG_ BK326.out) NB326_0.out (by simp))
  have n1_ := Aside0.mk (Kd.N_mono (Kd.N_told (Kd.N_oldK (Kd.N_mono (ok := fun k_ => (((((w.heap.size ≤ k_)) ∧ (k_ ≠ gb326 ∧ k_ ≠ g)) ∧ k_ ≠ gb335) ∧ some k_ ≠ (v339 : Value).ownBlock)) (aN_ HO333.out) (fun k_ hk_ => (⟨hk_, hk_.1.1.2.2⟩ : _ ∧ k_ ≠ g))) hk) (by first | exact Kd.N_base ho0 | exact Kd.N_base (Kd.R_N ho0))) (fun _ h_ => h_.1))
  have n2_ := Aside0.mk (KeepBut.blk hk (g' := gb335) (o := .cells #[.int .i64 t329, .int .i64 t330, .slice Ao18 t331.length co18] 34 (0, 0)) (aG_ BK335.out) NB335_0.out (by simp))
  have n3_ := Aside0.mk (Kd.N_mono (Kd.N_told (Kd.N_oldK (Kd.N_mono (ok := fun k_ => (((w.heap.size ≤ k_)) ∧ (some k_ ≠ (.slice Ao18 t331.length co18 : Value).ownBlock ∧ (k_ ≠ gb326 ∧ (k_ ≠ gb335 ∧ k_ ≠ g))))) (aN_ HO340.out) (fun k_ hk_ => (⟨hk_, hk_.2.2.2.2⟩ : _ ∧ k_ ≠ g))) hk) (by first | exact Kd.N_base ho0 | exact Kd.N_base (Kd.R_N ho0))) (fun _ h_ => h_.1))
  have n4_ := Aside0.mk (Kd.N_lower (Kd.N_mono (ok' := fun k_ => (w.heap.size ≤ k_) ∧ some k_ ≠ (.slice Ao18 t331.length co18 : Value).ownBlock ∧ some k_ ≠ (v339 : Value).ownBlock ∧ k_ ≠ gb326 ∧ k_ ≠ gb335 ∧ k_ ≠ g) ho0 (fun k_ hk_ => ⟨(Nat.le_trans (keep_size (w := w) (g := g) (row := none) ab20_) hk_), (Kd.fresh' (Kd.N_lt (aN_ HO333.out)) k_ hk_), (Kd.fresh' (Kd.N_lt (aN_ HO340.out)) k_ hk_), (Kd.freshB (g := gb326) (o := .cells #[.int .i64 0, .int .i64 0, .int .i64 0, .int .i64 0, .int .i64 0, .slice none 0 0, .slice none 0 0, .slice none 0 0] 36 (0, 0)) (aG_ BK326.out) k_ hk_), (Kd.freshB (g := gb335) (o := .cells #[.int .i64 t329, .int .i64 t330, .slice Ao18 t331.length co18] 34 (0, 0)) (aG_ BK335.out) k_ hk_), (IsS61.fresh ab43_ k_ hk_)⟩)) (keep_size (w := w) (g := g) (row := none) ab20_))
  have n5_ := Aside0.mk (KeepBut.trans ab20_ hk (.inl rfl))
  have n6_ := Aside0.mk (hb)
  have n7_ := Aside0.mk (hi)
  clear BK326
  clear HO333
  clear BK335
  clear HO340
  clear HK
  clear HB
  clear HI0
  have BK326 := n0_
  have HO333 := n1_
  have BK335 := n2_
  have HO340 := n3_
  have HO346 := n4_
  have HK := n5_
  have HB := n6_
  have HI0 := n7_
  clear n0_ n1_ n2_ n3_ n4_ n5_ n6_ n7_
  (try clear hb)
  (try clear hb2)
  (try clear hk)
  (try clear hi)
  (try clear ho0)
  obtain ⟨Ao24, co24, eo24⟩ := Kd.N_slice HO346.out
  (first | subst eo24 | (injection eo24 with f1_ f2_ f3_; have f4_ := f1_.symm; have f5_ := f3_.symm; clear f1_ f2_ f3_; subst f4_; subst f5_))
  obtain ⟨Ao25, co25, eo25⟩ := Kd.N_slice HO340.out
  (first | subst eo25 | (injection eo25 with f1_ f2_ f3_; have f4_ := f1_.symm; have f5_ := f3_.symm; clear f1_ f2_ f3_; subst f4_; subst f5_))
  refine hK.out _ _ ⟨(blk_cell BK335.out 0).trans rfl, (blk_cell BK335.out 1).trans rfl, (blk_cell BK335.out 2).trans rfl⟩ (fun hHeld => ?_)
  clear hK K
  refine norm_ (a' := ?_) ?_ ?_
  rotate_left
  · show Act.put _ (some 33) _ = _
    simp only [Act.put, List.setIfInBounds_toArray, List.set_cons_zero, List.set_cons_succ, i64_w, i32_w]
    rfl
  refine pure_ (i := 10) (N := some 34) (v := ?_) (a' := ?_) #[true, true, true, true, true, true, true, true, true, true, true, false] rfl rfl (any_of HT_.out (by kernel_rfl)) (fun _ _ _ h => h) (Or.inl ⟨by rfl, ?_⟩) ?_ ?_
  rotate_left
  · intro w'
    go_simp
    with_reducible rfl
  rotate_left
  · simp only [Act.put, List.setIfInBounds_toArray, List.set_cons_zero, List.set_cons_succ, i64_w, i32_w]
    rfl
  refine one_ (i := 11) (N := none) #[true, true, true, true, true, true, true, true, true, true, true, true] rfl rfl (one_of HT_.out (by kernel_rfl)) (by decide) (fun K hK => ?_)
  have hs26 : w23.cell? ⟨gb326, 0, none⟩ = some (.int .i64 0) := (blk_cell BK326.out 0).trans rfl
  have hfs26 := blk_frozen BK326.out 0
  have hns26_1 := NB335_326.out
  have hms26_1 := NB326_335.out
  have hs27 : w23.cell? ⟨gb326, 1, none⟩ = some (.int .i64 0) := (blk_cell BK326.out 1).trans rfl
  have hfs27 := blk_frozen BK326.out 1
  have hns27_1 := NB335_326.out
  have hms27_1 := NB326_335.out
  have hs28 : w23.cell? ⟨gb326, 2, none⟩ = some (.int .i64 0) := (blk_cell BK326.out 2).trans rfl
  have hfs28 := blk_frozen BK326.out 2
  have hns28_1 := NB335_326.out
  have hms28_1 := NB326_335.out
  have hs29 : w23.cell? ⟨gb326, 3, none⟩ = some (.int .i64 0) := (blk_cell BK326.out 3).trans rfl
  have hfs29 := blk_frozen BK326.out 3
  have hns29_1 := NB335_326.out
  have hms29_1 := NB326_335.out
  have hs30 : w23.cell? ⟨gb326, 4, none⟩ = some (.int .i64 0) := (blk_cell BK326.out 4).trans rfl
  have hfs30 := blk_frozen BK326.out 4
  have hns30_1 := NB335_326.out
  have hms30_1 := NB326_335.out
  have hs31 : w23.cell? ⟨gb326, 5, none⟩ = some (.slice none 0 0) := (blk_cell BK326.out 5).trans rfl
  have hfs31 := blk_frozen BK326.out 5
  have hns31_1 := NB335_326.out
  have hms31_1 := NB326_335.out
  have hs32 : w23.cell? ⟨gb326, 6, none⟩ = some (.slice none 0 0) := (blk_cell BK326.out 6).trans rfl
  have hfs32 := blk_frozen BK326.out 6
  have hns32_1 := NB335_326.out
  have hms32_1 := NB326_335.out
  have hs33 : w23.cell? ⟨gb326, 7, none⟩ = some (.slice none 0 0) := (blk_cell BK326.out 7).trans rfl
  have hfs33 := blk_frozen BK326.out 7
  have hns33_1 := NB335_326.out
  have hms33_1 := NB326_335.out
  refine skip_ (w1 := ?_) (by rfl) rfl ?_ ?_
  rotate_left
  · go_simp
    rfl
  refine hK.out _ _ ⟨((cell_far (p := ⟨gb326, _, none⟩) NB335_326.out _).trans (((cell_far (p := ⟨gb326, _, none⟩) NB335_326.out _).trans (((cell_far (p := ⟨gb326, _, none⟩) NB335_326.out _).trans (((cell_far (p := ⟨gb326, _, none⟩) NB335_326.out _).trans (((cell_far (p := ⟨gb326, _, none⟩) NB335_326.out _).trans (((cell_far (p := ⟨gb326, _, none⟩) NB335_326.out _).trans (((cell_far (p := ⟨gb326, _, none⟩) NB335_326.out _).trans (((cell_far (p := ⟨gb326, _, none⟩) NB335_326.out _).trans (hHeld.1)))))))))))))))), ((cell_far (p := ⟨gb326, _, none⟩) NB335_326.out _).trans (((cell_far (p := ⟨gb326, _, none⟩) NB335_326.out _).trans (((cell_far (p := ⟨gb326, _, none⟩) NB335_326.out _).trans (((cell_far (p := ⟨gb326, _, none⟩) NB335_326.out _).trans (((cell_far (p := ⟨gb326, _, none⟩) NB335_326.out _).trans (((cell_far (p := ⟨gb326, _, none⟩) NB335_326.out _).trans (((cell_far (p := ⟨gb326, _, none⟩) NB335_326.out _).trans (((cell_far (p := ⟨gb326, _, none⟩) NB335_326.out _).trans (hHeld.2.1)))))))))))))))), ((cell_far (p := ⟨gb326, _, none⟩) NB335_326.out _).trans (((cell_far (p := ⟨gb326, _, none⟩) NB335_326.out _).trans (((cell_far (p := ⟨gb326, _, none⟩) NB335_326.out _).trans (((cell_far (p := ⟨gb326, _, none⟩) NB335_326.out _).trans (((cell_far (p := ⟨gb326, _, none⟩) NB335_326.out _).trans (((cell_far (p := ⟨gb326, _, none⟩) NB335_326.out _).trans (((cell_far (p := ⟨gb326, _, none⟩) NB335_326.out _).trans (((cell_far (p := ⟨gb326, _, none⟩) NB335_326.out _).trans (hHeld.2.2))))))))))))))))⟩ (fun hHeld => ?_)
  clear hK K
  refine done_ (done_of HT_.out (by kernel_rfl)) ?_
  try go_wp2
  refine bodyPost_ret (results_cell_row rfl _ _ gb326 36 #[.int .i64 2, .int .i64 0, .int .i64 0, .int .i64 t329, .int .i64 t330, .slice Ao18 t331.length co18, .slice Ao25 t338.length co25, .slice Ao24 t344.length co24] (0, 0) _ rfl (by (with_reducible repeat (first | refine blk_drewN ?_ _ | refine blk_drew ?_ | refine blk_alloc ?_ _)); refine blk_put (cs := #[.int .i64 2, .int .i64 0, .int .i64 0, .int .i64 t329, .int .i64 t330, .slice Ao18 t331.length co18, .slice Ao25 t338.length co25, .slice none 0 0]) ?_ 7 _ rfl; (with_reducible repeat (first | refine blk_drewN ?_ _ | refine blk_drew ?_ | refine blk_alloc ?_ _)); refine blk_put (cs := #[.int .i64 2, .int .i64 0, .int .i64 0, .int .i64 t329, .int .i64 t330, .slice Ao18 t331.length co18, .slice none 0 0, .slice none 0 0]) ?_ 6 _ rfl; (with_reducible repeat (first | refine blk_drewN ?_ _ | refine blk_drew ?_ | refine blk_alloc ?_ _)); refine blk_put (cs := #[.int .i64 2, .int .i64 0, .int .i64 0, .int .i64 t329, .int .i64 t330, .slice none 0 0, .slice none 0 0, .slice none 0 0]) ?_ 5 _ rfl; (with_reducible repeat (first | refine blk_drewN ?_ _ | refine blk_drew ?_ | refine blk_alloc ?_ _)); refine blk_put (cs := #[.int .i64 2, .int .i64 0, .int .i64 0, .int .i64 t329, .int .i64 0, .slice none 0 0, .slice none 0 0, .slice none 0 0]) ?_ 4 _ rfl; (with_reducible repeat (first | refine blk_drewN ?_ _ | refine blk_drew ?_ | refine blk_alloc ?_ _)); refine blk_put (cs := #[.int .i64 2, .int .i64 0, .int .i64 0, .int .i64 0, .int .i64 0, .slice none 0 0, .slice none 0 0, .slice none 0 0]) ?_ 3 _ rfl; (with_reducible repeat (first | refine blk_drewN ?_ _ | refine blk_drew ?_ | refine blk_alloc ?_ _)); refine blk_put (cs := #[.int .i64 2, .int .i64 0, .int .i64 0, .int .i64 0, .int .i64 0, .slice none 0 0, .slice none 0 0, .slice none 0 0]) ?_ 2 _ rfl; (with_reducible repeat (first | refine blk_drewN ?_ _ | refine blk_drew ?_ | refine blk_alloc ?_ _)); refine blk_put (cs := #[.int .i64 2, .int .i64 0, .int .i64 0, .int .i64 0, .int .i64 0, .slice none 0 0, .slice none 0 0, .slice none 0 0]) ?_ 1 _ rfl; (with_reducible repeat (first | refine blk_drewN ?_ _ | refine blk_drew ?_ | refine blk_alloc ?_ _)); refine blk_put (cs := #[.int .i64 0, .int .i64 0, .int .i64 0, .int .i64 0, .int .i64 0, .slice none 0 0, .slice none 0 0, .slice none 0 0]) ?_ 0 _ rfl; (with_reducible repeat (first | refine blk_drewN ?_ _ | refine blk_drew ?_ | refine blk_alloc ?_ _)); exact BK326.out) Try.underlying36 rfl (by kernel_rfl)) rfl ?_
  exact ⟨_, _, _, ab8_, by (with_reducible repeat (first | apply Kd.N_alloc | apply Kd.N_drewN | apply Kd.N_drew)); exact Kd.N_mono (Kd.N_far (p := ⟨gb326, 7, none⟩) (Kd.N_far (p := ⟨gb326, 6, none⟩) (Kd.N_far (p := ⟨gb326, 5, none⟩) (Kd.N_far (p := ⟨gb326, 4, none⟩) (Kd.N_far (p := ⟨gb326, 3, none⟩) (Kd.N_far (p := ⟨gb326, 2, none⟩) (Kd.N_far (p := ⟨gb326, 1, none⟩) (Kd.N_far (p := ⟨gb326, 0, none⟩) (Kd.N_mono HO333.out (fun k_ hk => (⟨hk, hk.1.1.1.2.1⟩ : _ ∧ k_ ≠ gb326))) (fun _ hk => hk.2) (.int .i64 2)) (fun _ hk => hk.2) (.int .i64 0)) (fun _ hk => hk.2) (.int .i64 0)) (fun _ hk => hk.2) (.int .i64 t329)) (fun _ hk => hk.2) (.int .i64 t330)) (fun _ hk => hk.2) (.slice Ao18 t331.length co18)) (fun _ hk => hk.2) (.slice Ao25 t338.length co25)) (fun _ hk => hk.2) (.slice Ao24 t344.length co24)) (fun _ hk => ⟨hk.1.1.1.1.1, ⟨hk.1.1.2, hk.1.2⟩⟩), by (with_reducible repeat (first | apply Kd.N_alloc | apply Kd.N_drewN | apply Kd.N_drew)); exact Kd.N_mono (Kd.N_far (p := ⟨gb326, 7, none⟩) (Kd.N_far (p := ⟨gb326, 6, none⟩) (Kd.N_far (p := ⟨gb326, 5, none⟩) (Kd.N_far (p := ⟨gb326, 4, none⟩) (Kd.N_far (p := ⟨gb326, 3, none⟩) (Kd.N_far (p := ⟨gb326, 2, none⟩) (Kd.N_far (p := ⟨gb326, 1, none⟩) (Kd.N_far (p := ⟨gb326, 0, none⟩) (Kd.N_mono HO340.out (fun k_ hk => (⟨hk, hk.1.2.2.1⟩ : _ ∧ k_ ≠ gb326))) (fun _ hk => hk.2) (.int .i64 2)) (fun _ hk => hk.2) (.int .i64 0)) (fun _ hk => hk.2) (.int .i64 0)) (fun _ hk => hk.2) (.int .i64 t329)) (fun _ hk => hk.2) (.int .i64 t330)) (fun _ hk => hk.2) (.slice Ao18 t331.length co18)) (fun _ hk => hk.2) (.slice Ao25 t338.length co25)) (fun _ hk => hk.2) (.slice Ao24 t344.length co24)) (fun _ hk => ⟨hk.1.1.1, ⟨hk.1.1.2.1, hk.1.2⟩⟩), by (with_reducible repeat (first | apply Kd.N_alloc | apply Kd.N_drewN | apply Kd.N_drew)); exact Kd.N_mono (Kd.N_far (p := ⟨gb326, 7, none⟩) (Kd.N_far (p := ⟨gb326, 6, none⟩) (Kd.N_far (p := ⟨gb326, 5, none⟩) (Kd.N_far (p := ⟨gb326, 4, none⟩) (Kd.N_far (p := ⟨gb326, 3, none⟩) (Kd.N_far (p := ⟨gb326, 2, none⟩) (Kd.N_far (p := ⟨gb326, 1, none⟩) (Kd.N_far (p := ⟨gb326, 0, none⟩) (Kd.N_mono HO346.out (fun k_ hk => (⟨hk, hk.2.2.2.1⟩ : _ ∧ k_ ≠ gb326))) (fun _ hk => hk.2) (.int .i64 2)) (fun _ hk => hk.2) (.int .i64 0)) (fun _ hk => hk.2) (.int .i64 0)) (fun _ hk => hk.2) (.int .i64 t329)) (fun _ hk => hk.2) (.int .i64 t330)) (fun _ hk => hk.2) (.slice Ao18 t331.length co18)) (fun _ hk => hk.2) (.slice Ao25 t338.length co25)) (fun _ hk => hk.2) (.slice Ao24 t344.length co24)) (fun _ hk => ⟨hk.1.1, ⟨hk.1.2.1, hk.1.2.2.1⟩⟩), ab43_, by repeat (first | (with_reducible first | exact HB.out | apply below_alloc | apply pw_below_drewN | apply below_drew1 | refine below_set ?_ (IsS61.ge HI0.out) | refine below_set ?_ GE326.out | refine below_set ?_ GE335.out) | exact HB.out), ab20_⟩

end Go.Proofs.Ytpifdlpieglhlaa.PA

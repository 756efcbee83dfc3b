/- Part 6 of the proof of FnPlain. -/
import Derived.Test.YtpcbfcaacilghaaQFnPlain4
import Derived.Deep.Slices
import Derived.ChangeArms
import Derived.ChangeSame
import Derived.WideShapes
import Derived.Laws.BitsLemmas
set_option maxHeartbeats 8000000
set_option maxRecDepth 100000
namespace Go.Proofs.Ytpcbfcaacilghaa.PA
open Go.RowKit Go.Proofs.YtpcbfcaacilghaaW.PrintWords Go.Proofs.YtpcbfcaacilghaaW.PrintLast Go.Proofs.YtpcbfcaacilghaaW.PrintMore
attribute [local go_sem] max2_int min2_int max_two min_two max_three min_three max_four min_four
set_option linter.unusedVariables false
set_option linter.unusedSimpArgs false
theorem laws_countKind.mono_l : ∀ k, (∀ y0 y1, LeO (laws_countKind.f k y0 y1) (laws_countKind.f (k + 1) y0 y1)) ∧ (∀ y0 y1 y2 y3, LeO (laws_countKind.l0 k y0 y1 y2 y3) (laws_countKind.l0 (k + 1) y0 y1 y2 y3))
 | 0 => ⟨fun _ _ r h => by simp [laws_countKind.f] at h, fun _ _ _ _ r h => by simp [laws_countKind.l0] at h⟩
 | k + 1 => by
  obtain ⟨ih0, ih1⟩ := laws_countKind.mono_l k
  refine ⟨?_, ?_⟩
  ·intro y0 y1
   unfold laws_countKind.f
   repeat' first
   | (with_reducible exact ih0 _ _)
   | (with_reducible exact ih1 _ _ _ _)
   | (with_reducible exact LeO.refl _)
   | (with_reducible exact LeO.none _)
   | (with_reducible refine LeO.ite ?_ ?_)
   | (with_reducible refine LeO.bind ?_ (fun _ => ?_))
  ·intro y0 y1 y2 y3
   unfold laws_countKind.l0
   repeat' first
   | (with_reducible exact ih0 _ _)
   | (with_reducible exact ih1 _ _ _ _)
   | (with_reducible exact LeO.refl _)
   | (with_reducible exact LeO.none _)
   | (with_reducible refine LeO.ite ?_ ?_)
   | (with_reducible refine LeO.bind ?_ (fun _ => ?_))
theorem laws_countKind.mono : ∀ a0 a1 k, LeO (laws_countKind.f k a0 a1) (laws_countKind.f (k + 1) a0 a1) := by
 intro a0 a1 k
 obtain ⟨ih0, ih1⟩ := laws_countKind.mono_l k
 exact ih0 a0 a1
def laws_countKind.T7 : Bool × List (List Nat × List Nat) := (true, [([], []), ([], []), ([], []), ([1, 2], [1, 2]), ([3], [3]), ([4], [4]), ([], []), ([5, 6], [5, 6]), ([0, 7], [0, 7]), ([], []), ([], []), ([9, 10], [9, 10]), ([11], [11]), ([12], [12]), ([], []), ([13, 14, 7], [13, 14]), ([8, 15], [8, 15]), ([16, 15, 0, 1, 2, 3, 4, 5, 6, 7, 8, 9, 10, 11, 12, 13, 14, 15, 16], [0, 16])])
def laws_countKind.B7 : List Nat := [0, 0, 0, 6, 14, 30, 0, 126, 255, 0, 0, 1536, 3584, 7680, 0, 32510, 65535, 131071]
theorem laws_countKind.tab7 : rtab .any (opsOf Try.f25 7) = laws_countKind.T7 := by kernel_rfl
theorem laws_countKind.bits7 : waitsOk laws_countKind.T7.2 laws_countKind.B7 = true := by kernel_rfl
theorem laws_countKind.calls (k : Nat) : ∀ (A0 : Option Addr) (c0 : Nat) (l0 : List (S37)) (a1 : Int) (r : Int) (w : World) (hr0 : Kd.C k37 w A0 l0.length l0) (hc0 : l0.length ≤ c0) (h : laws_countKind.f k l0 a1 = some r),
  Calls Try.prog 25 #[.slice A0 l0.length c0, .int .i64 a1] w fun e w' => e = .returned (.int .i64 r) ∧ Below w.heap.size w w' := by
 induction k using Nat.strongRecOn with
 | _ k ih =>
 intro A0 c0 l0 a1 r w hr0 hc0 h
 cases k with
 | zero => exact absurd h (by simp [laws_countKind.f])
 | succ k =>
 simp only [laws_countKind.f] at h
 have HR0 := am hr0
 have HC0 := am hc0
 clear hr0 hc0
 have HB := am (Below.refl w.heap.size w)
 have H : (laws_countKind.l0 k l0 a1 0 0) = some r := h
 clear h
 have H' := am H
 clear H
 go_enter Try.func25, Try.ntmps25
 go_wp2
 go_loopg [5, 6] k (fun kq v5 v6 w' => ∃ (x5_1 : Int) (x6_1 : Int), v5 = .int .i64 x5_1 ∧ v6 = .int .i64 x6_1 ∧ Aside0 (laws_countKind.l0 kq l0 a1 x5_1 x6_1 = some r) ∧ Aside0 (kq ≤ k) ∧ Aside0 (Below w.heap.size w w'))
 case atStart => exact ⟨(0), (0), (by first | rfl | (simp; done) | (simp [*]; done)), (by first | rfl | (simp; done) | (simp [*]; done)), H', ⟨Nat.le_refl _⟩, ⟨ab2_⟩⟩
 case round =>
  clear H'
  obtain ⟨x5_1, x6_1, rfl, rfl, HA, HK1, HB⟩ := hrel
  cases gk with
  | zero => exact absurd HA.out (by simp [laws_countKind.l0])
  | succ k1 =>
   have H := HA.out
   clear HA
   simp only [laws_countKind.l0] at H
   by_cases c3 : x6_1 < (l0.length : Int)
   ·rw [if_pos c3] at H
    have c3b0 : decide (x6_1 < (l0.length : Int)) = true := decide_eq_true c3
    clear c3
    by_cases c4 : 0 ≤ x6_1
    ·rw [if_pos c4] at H
     have c4b0 : decide (0 ≤ x6_1) = true := decide_eq_true c4
     clear c4
     by_cases c5 : ((rd_T37 l0 x6_1).f0) = a1
     ·rw [if_pos c5] at H
      have c5b0 : (((rd_T37 l0 x6_1).f0) == a1) = true := beq_iff_eq.mpr c5
      have c5b1 : (((rd_T37 l0 x6_1).f0) != a1) = false := bne_eq_false_iff_eq.mpr c5
      clear c5
      obtain ⟨t705, A60, H⟩ := bsm H
      (try dsimp only at H)
      have A6 := am A60
      clear A60
      obtain ⟨t707, A70, H⟩ := bsm H
      (try dsimp only at H)
      have A7 := am A70
      clear A70
      have H' := am H
      clear H
      have p703 : 0 ≤ (x6_1 : Int) := of_decide_eq_true (by first | (with_reducible assumption) | assumption)
      have q703 : x6_1 < (l0.length : Int) := of_decide_eq_true (by first | (with_reducible assumption) | assumption)
      obtain ⟨ad703, A703_5, c703_5, A703_6, c703_6, A703_7, c703_7, e703, hx703_0, hx703_1, hx703_2, hx703_3, hx703_4, hx703_5, hx703_6, hx703_7, hl703_5, hi703_5, hl703_6, hi703_6, hl703_7, hi703_7⟩ := at_T37 HR0.out x6_1 p703 q703
      cases e703
      replace hx703_0 := (HB.out.cell (World.block_lt_of_cell? w _ hx703_0)).trans hx703_0
      replace hx703_1 := (HB.out.cell (World.block_lt_of_cell? w _ hx703_1)).trans hx703_1
      replace hx703_2 := (HB.out.cell (World.block_lt_of_cell? w _ hx703_2)).trans hx703_2
      replace hx703_3 := (HB.out.cell (World.block_lt_of_cell? w _ hx703_3)).trans hx703_3
      replace hx703_4 := (HB.out.cell (World.block_lt_of_cell? w _ hx703_4)).trans hx703_4
      replace hx703_5 := (HB.out.cell (World.block_lt_of_cell? w _ hx703_5)).trans hx703_5
      replace hx703_6 := (HB.out.cell (World.block_lt_of_cell? w _ hx703_6)).trans hx703_6
      replace hx703_7 := (HB.out.cell (World.block_lt_of_cell? w _ hx703_7)).trans hx703_7
      have HR703_5 := am hi703_5
      have HC703_5 := am hl703_5
      clear hi703_5 hl703_5
      have HR703_6 := am hi703_6
      have HC703_6 := am hl703_6
      clear hi703_6 hl703_6
      have HR703_7 := am hi703_7
      have HC703_7 := am hl703_7
      clear hi703_7 hl703_7
      replace p703 := eq_true p703
      replace q703 := eq_true q703
      try go_wp2
      have n0_ := am (below_drew1 HB.out)
      clear HB
      have HB := n0_
      clear n0_
      have p704 : 0 ≤ (x6_1 : Int) := of_decide_eq_true (by first | (with_reducible assumption) | assumption)
      have q704 : x6_1 < (l0.length : Int) := of_decide_eq_true (by first | (with_reducible assumption) | assumption)
      obtain ⟨ad704, A704_5, c704_5, A704_6, c704_6, A704_7, c704_7, e704, hx704_0, hx704_1, hx704_2, hx704_3, hx704_4, hx704_5, hx704_6, hx704_7, hl704_5, hi704_5, hl704_6, hi704_6, hl704_7, hi704_7⟩ := at_T37 HR0.out x6_1 p704 q704
      have hw704_7 := hx704_7
      have hw704_6 := hx704_6
      have hw704_5 := hx704_5
      have hw704_4 := hx704_4
      have hw704_3 := hx704_3
      have hw704_2 := hx704_2
      have hw704_1 := hx704_1
      have hw704_0 := hx704_0
      obtain rfl : ad703 = ad704 := (by injection e704)
      replace hx704_0 := (HB.out.cell (World.block_lt_of_cell? w _ hx704_0)).trans hx704_0
      replace hx704_1 := (HB.out.cell (World.block_lt_of_cell? w _ hx704_1)).trans hx704_1
      replace hx704_2 := (HB.out.cell (World.block_lt_of_cell? w _ hx704_2)).trans hx704_2
      replace hx704_3 := (HB.out.cell (World.block_lt_of_cell? w _ hx704_3)).trans hx704_3
      replace hx704_4 := (HB.out.cell (World.block_lt_of_cell? w _ hx704_4)).trans hx704_4
      replace hx704_5 := (HB.out.cell (World.block_lt_of_cell? w _ hx704_5)).trans hx704_5
      replace hx704_6 := (HB.out.cell (World.block_lt_of_cell? w _ hx704_6)).trans hx704_6
      replace hx704_7 := (HB.out.cell (World.block_lt_of_cell? w _ hx704_7)).trans hx704_7
      have HR704_5 := am hi704_5
      have HC704_5 := am hl704_5
      clear hi704_5 hl704_5
      have HR704_6 := am hi704_6
      have HC704_6 := am hl704_6
      clear hi704_6 hl704_6
      have HR704_7 := am hi704_7
      have HC704_7 := am hl704_7
      clear hi704_7 hl704_7
      replace p704 := eq_true p704
      replace q704 := eq_true q704
      have p706 : 0 ≤ (x6_1 : Int) := of_decide_eq_true (by first | (with_reducible assumption) | assumption)
      have q706 : x6_1 < (l0.length : Int) := of_decide_eq_true (by first | (with_reducible assumption) | assumption)
      obtain ⟨ad706, A706_5, c706_5, A706_6, c706_6, A706_7, c706_7, e706, hx706_0, hx706_1, hx706_2, hx706_3, hx706_4, hx706_5, hx706_6, hx706_7, hl706_5, hi706_5, hl706_6, hi706_6, hl706_7, hi706_7⟩ := at_T37 HR0.out x6_1 p706 q706
      have hw706_7 := hx706_7
      have hw706_6 := hx706_6
      have hw706_5 := hx706_5
      have hw706_4 := hx706_4
      have hw706_3 := hx706_3
      have hw706_2 := hx706_2
      have hw706_1 := hx706_1
      have hw706_0 := hx706_0
      obtain rfl : ad703 = ad706 := (by injection e706)
      replace hx706_0 := (HB.out.cell (World.block_lt_of_cell? w _ hx706_0)).trans hx706_0
      replace hx706_1 := (HB.out.cell (World.block_lt_of_cell? w _ hx706_1)).trans hx706_1
      replace hx706_2 := (HB.out.cell (World.block_lt_of_cell? w _ hx706_2)).trans hx706_2
      replace hx706_3 := (HB.out.cell (World.block_lt_of_cell? w _ hx706_3)).trans hx706_3
      replace hx706_4 := (HB.out.cell (World.block_lt_of_cell? w _ hx706_4)).trans hx706_4
      replace hx706_5 := (HB.out.cell (World.block_lt_of_cell? w _ hx706_5)).trans hx706_5
      replace hx706_6 := (HB.out.cell (World.block_lt_of_cell? w _ hx706_6)).trans hx706_6
      replace hx706_7 := (HB.out.cell (World.block_lt_of_cell? w _ hx706_7)).trans hx706_7
      have HR706_5 := am hi706_5
      have HC706_5 := am hl706_5
      clear hi706_5 hl706_5
      have HR706_6 := am hi706_6
      have HC706_6 := am hl706_6
      clear hi706_6 hl706_6
      have HR706_7 := am hi706_7
      have HC706_7 := am hl706_7
      clear hi706_7 hl706_7
      replace p706 := eq_true p706
      replace q706 := eq_true q706
      have ea_ := Option.some.inj (hx704_5.symm.trans hx706_5)
      injection ea_ with ea_ en_ ec_
      subst ea_
      subst ec_
      clear en_
      have ea_ := Option.some.inj (hx704_6.symm.trans hx706_6)
      injection ea_ with ea_ en_ ec_
      subst ea_
      subst ec_
      clear en_
      have ea_ := Option.some.inj (hx704_7.symm.trans hx706_7)
      injection ea_ with ea_ en_ ec_
      subst ea_
      subst ec_
      clear en_
      refine start_ (n := 18) (S := fun w' => w'.cell? (ad703.add ((x6_1).toNat * 8)) = some (.int .i64 ((rd_T37 l0 x6_1).f0)) ∧ w'.cell? ⟨(ad703.add ((x6_1).toNat * 8)).block, (ad703.add ((x6_1).toNat * 8)).off + 1, none⟩ = some (.int .i64 ((rd_T37 l0 x6_1).f1)) ∧ w'.cell? ⟨(ad703.add ((x6_1).toNat * 8)).block, (ad703.add ((x6_1).toNat * 8)).off + 2, none⟩ = some (.int .i64 ((rd_T37 l0 x6_1).f2)) ∧ w'.cell? ⟨(ad703.add ((x6_1).toNat * 8)).block, (ad703.add ((x6_1).toNat * 8)).off + 3, none⟩ = some (.int .i64 ((rd_T37 l0 x6_1).f3.f0)) ∧ w'.cell? ⟨(ad703.add ((x6_1).toNat * 8)).block, (ad703.add ((x6_1).toNat * 8)).off + 4, none⟩ = some (.int .i64 ((rd_T37 l0 x6_1).f3.f1)) ∧ w'.cell? ⟨(ad703.add ((x6_1).toNat * 8)).block, (ad703.add ((x6_1).toNat * 8)).off + 5, none⟩ = some (.slice A704_5 ((rd_T37 l0 x6_1).f3.f2).length c704_5) ∧ w'.cell? ⟨(ad703.add ((x6_1).toNat * 8)).block, (ad703.add ((x6_1).toNat * 8)).off + 6, none⟩ = some (.slice A704_6 ((rd_T37 l0 x6_1).f4).length c704_6) ∧ w'.cell? ⟨(ad703.add ((x6_1).toNat * 8)).block, (ad703.add ((x6_1).toNat * 8)).off + 7, none⟩ = some (.slice A704_7 ((rd_T37 l0 x6_1).f5).length c704_7) ∧ w'.cell? (ad703.add ((x6_1).toNat * 8)) = some (.int .i64 ((rd_T37 l0 x6_1).f0)) ∧ w'.cell? ⟨(ad703.add ((x6_1).toNat * 8)).block, (ad703.add ((x6_1).toNat * 8)).off + 1, none⟩ = some (.int .i64 ((rd_T37 l0 x6_1).f1)) ∧ w'.cell? ⟨(ad703.add ((x6_1).toNat * 8)).block, (ad703.add ((x6_1).toNat * 8)).off + 2, none⟩ = some (.int .i64 ((rd_T37 l0 x6_1).f2)) ∧ w'.cell? ⟨(ad703.add ((x6_1).toNat * 8)).block, (ad703.add ((x6_1).toNat * 8)).off + 3, none⟩ = some (.int .i64 ((rd_T37 l0 x6_1).f3.f0)) ∧ w'.cell? ⟨(ad703.add ((x6_1).toNat * 8)).block, (ad703.add ((x6_1).toNat * 8)).off + 4, none⟩ = some (.int .i64 ((rd_T37 l0 x6_1).f3.f1)) ∧ w'.cell? ⟨(ad703.add ((x6_1).toNat * 8)).block, (ad703.add ((x6_1).toNat * 8)).off + 5, none⟩ = some (.slice A704_5 ((rd_T37 l0 x6_1).f3.f2).length c704_5) ∧ w'.cell? ⟨(ad703.add ((x6_1).toNat * 8)).block, (ad703.add ((x6_1).toNat * 8)).off + 6, none⟩ = some (.slice A704_6 ((rd_T37 l0 x6_1).f4).length c704_6) ∧ w'.cell? ⟨(ad703.add ((x6_1).toNat * 8)).block, (ad703.add ((x6_1).toNat * 8)).off + 7, none⟩ = some (.slice A704_7 ((rd_T37 l0 x6_1).f5).length c704_7)) (ds := []) #[false, false, false, false, false, false, false, false, false, false, false, false, false, false, false, false, false, false] (by kernel_rfl) rfl rfl ⟨((HB.out.cell (World.block_lt_of_cell? w _ hw704_0)).trans hw704_0), ((HB.out.cell (World.block_lt_of_cell? w _ hw704_1)).trans hw704_1), ((HB.out.cell (World.block_lt_of_cell? w _ hw704_2)).trans hw704_2), ((HB.out.cell (World.block_lt_of_cell? w _ hw704_3)).trans hw704_3), ((HB.out.cell (World.block_lt_of_cell? w _ hw704_4)).trans hw704_4), ((HB.out.cell (World.block_lt_of_cell? w _ hw704_5)).trans hw704_5), ((HB.out.cell (World.block_lt_of_cell? w _ hw704_6)).trans hw704_6), ((HB.out.cell (World.block_lt_of_cell? w _ hw704_7)).trans hw704_7), ((HB.out.cell (World.block_lt_of_cell? w _ hw706_0)).trans hw706_0), ((HB.out.cell (World.block_lt_of_cell? w _ hw706_1)).trans hw706_1), ((HB.out.cell (World.block_lt_of_cell? w _ hw706_2)).trans hw706_2), ((HB.out.cell (World.block_lt_of_cell? w _ hw706_3)).trans hw706_3), ((HB.out.cell (World.block_lt_of_cell? w _ hw706_4)).trans hw706_4), ((HB.out.cell (World.block_lt_of_cell? w _ hw706_5)).trans hw706_5), ((HB.out.cell (World.block_lt_of_cell? w _ hw706_6)).trans hw706_6), ((HB.out.cell (World.block_lt_of_cell? w _ hw706_7)).trans hw706_7)⟩ (fun hHeld => ?_); refine with_tabW laws_countKind.tab7 laws_countKind.bits7 (fun HT_ HW_ => ?_)
      generalize wr.drew = w8 at HB HR704_5 HR704_6 HR704_7 HR706_5 HR706_6 HR706_7 hx704_0 hx704_1 hx704_2 hx704_3 hx704_4 hx704_5 hx704_6 hx704_7 hx706_0 hx706_1 hx706_2 hx706_3 hx706_4 hx706_5 hx706_6 hx706_7 hHeld ⊢
      refine pure_ (i := 0) (N := some 22) (v := ?_) (a' := ?_) #[true, false, false, false, false, false, false, false, false, false, false, false, false, false, false, false, false, false] rfl rfl (any_of HT_.out (by kernel_rfl)) (fun _ _ _ h => h) (Or.inl ⟨by rfl, ?_⟩) ?_ ?_
      rotate_left
      ·intro w'
       go_simp
       with_reducible rfl
      rotate_left
      ·simp only [Act.put, List.setIfInBounds_toArray, List.set_cons_zero, List.set_cons_succ, i64_w, i32_w]
       rfl
      refine pure_ (i := 1) (N := some 23) (v := ?_) (a' := ?_) #[true, true, false, false, false, false, false, false, false, false, false, false, false, false, false, false, false, false] rfl rfl (any_of HT_.out (by kernel_rfl)) (fun _ _ _ h => h) (Or.inl ⟨by rfl, ?_⟩) ?_ ?_
      rotate_left
      ·intro w'
       go_simp
       with_reducible rfl
      rotate_left
      ·simp only [Act.put, List.setIfInBounds_toArray, List.set_cons_zero, List.set_cons_succ, i64_w, i32_w]
       rfl
      refine pure_ (i := 2) (N := some 24) (v := ?_) (a' := ?_) #[true, true, true, false, false, false, false, false, false, false, false, false, false, false, false, false, false, false] rfl rfl (any_of HT_.out (by kernel_rfl)) (fun _ _ _ h => h) (Or.inl ⟨by rfl, ?_⟩) ?_ ?_
      rotate_left
      ·intro w'
       go_simp
       with_reducible rfl
      rotate_left
      ·simp only [Act.put, List.setIfInBounds_toArray, List.set_cons_zero, List.set_cons_succ, i64_w, i32_w]
       rfl
      refine pure_ (i := 3) (N := some 25) (v := ?_) (a' := ?_) #[true, true, true, true, false, false, false, false, false, false, false, false, false, false, false, false, false, false] rfl rfl (any_of HT_.out (by kernel_rfl)) (fun _ _ _ h => h) (Or.inl ⟨by rfl, ?_⟩) ?_ ?_
      rotate_left
      ·intro w'
       go_simp
       with_reducible rfl
      rotate_left
      ·simp only [Act.put, List.setIfInBounds_toArray, List.set_cons_zero, List.set_cons_succ, i64_w, i32_w]
       rfl
      refine pure_ (i := 4) (N := some 26) (v := ?_) (a' := ?_) #[true, true, true, true, true, false, false, false, false, false, false, false, false, false, false, false, false, false] rfl rfl (any_of HT_.out (by kernel_rfl)) (fun _ _ _ h => h) (Or.inl ⟨by rfl, ?_⟩) ?_ ?_
      rotate_left
      ·intro w'
       go_simp
       with_reducible rfl
      rotate_left
      ·simp only [Act.put, List.setIfInBounds_toArray, List.set_cons_zero, List.set_cons_succ, i64_w, i32_w]
       rfl
      refine pure_ (i := 6) (N := some 28) (v := ?_) (a' := ?_) #[true, true, true, true, true, false, true, false, false, false, false, false, false, false, false, false, false, false] rfl rfl (any_of HT_.out (by kernel_rfl)) (fun _ _ _ h => h) (Or.inl ⟨by rfl, ?_⟩) ?_ ?_
      rotate_left
      ·intro w'
       go_simp
       with_reducible rfl
      rotate_left
      ·simp only [Act.put, List.setIfInBounds_toArray, List.set_cons_zero, List.set_cons_succ, i64_w, i32_w]
       rfl
      refine pure_ (i := 9) (N := some 31) (v := ?_) (a' := ?_) #[true, true, true, true, true, false, true, false, false, true, false, false, false, false, false, false, false, false] rfl rfl (any_of HT_.out (by kernel_rfl)) (fun _ _ _ h => h) (Or.inl ⟨by rfl, ?_⟩) ?_ ?_
      rotate_left
      ·intro w'
       go_simp
       with_reducible rfl
      rotate_left
      ·simp only [Act.put, List.setIfInBounds_toArray, List.set_cons_zero, List.set_cons_succ, i64_w, i32_w]
       rfl
      refine pure_ (i := 10) (N := some 32) (v := ?_) (a' := ?_) #[true, true, true, true, true, false, true, false, false, true, true, false, false, false, false, false, false, false] rfl rfl (any_of HT_.out (by kernel_rfl)) (fun _ _ _ h => h) (Or.inl ⟨by rfl, ?_⟩) ?_ ?_
      rotate_left
      ·intro w'
       go_simp
       with_reducible rfl
      rotate_left
      ·simp only [Act.put, List.setIfInBounds_toArray, List.set_cons_zero, List.set_cons_succ, i64_w, i32_w]
       rfl
      refine pure_ (i := 11) (N := some 33) (v := ?_) (a' := ?_) #[true, true, true, true, true, false, true, false, false, true, true, true, false, false, false, false, false, false] rfl rfl (any_of HT_.out (by kernel_rfl)) (fun _ _ _ h => h) (Or.inl ⟨by rfl, ?_⟩) ?_ ?_
      rotate_left
      ·intro w'
       go_simp
       with_reducible rfl
      rotate_left
      ·simp only [Act.put, List.setIfInBounds_toArray, List.set_cons_zero, List.set_cons_succ, i64_w, i32_w]
       rfl
      refine pure_ (i := 12) (N := some 34) (v := ?_) (a' := ?_) #[true, true, true, true, true, false, true, false, false, true, true, true, true, false, false, false, false, false] rfl rfl (any_of HT_.out (by kernel_rfl)) (fun _ _ _ h => h) (Or.inl ⟨by rfl, ?_⟩) ?_ ?_
      rotate_left
      ·intro w'
       go_simp
       with_reducible rfl
      rotate_left
      ·simp only [Act.put, List.setIfInBounds_toArray, List.set_cons_zero, List.set_cons_succ, i64_w, i32_w]
       rfl
      refine pure_ (i := 14) (N := some 36) (v := ?_) (a' := ?_) #[true, true, true, true, true, false, true, false, false, true, true, true, true, false, true, false, false, false] rfl rfl (any_of HT_.out (by kernel_rfl)) (fun _ _ _ h => h) (Or.inl ⟨by rfl, ?_⟩) ?_ ?_
      rotate_left
      ·intro w'
       go_simp
       with_reducible rfl
      rotate_left
      ·simp only [Act.put, List.setIfInBounds_toArray, List.set_cons_zero, List.set_cons_succ, i64_w, i32_w]
       rfl
      refine take_ (i := 5) (N := some 27) (v := ?_) (a' := ?_) #[true, true, true, true, true, true, true, false, false, true, true, true, true, false, true, false, false, false] rfl rfl (take_ofW HT_.out HW_.out (by kernel_rfl)) (fun _ _ _ h => h) (Or.inl ⟨by rfl, ?_⟩) hHeld ?_ ?_
      rotate_left
      ·rintro w' ⟨s0, s1, s2, s3, s4, s5, s6, s7, s8, s9, s10, s11, s12, s13, s14, s15⟩
       go_simp
       with_reducible rfl
      rotate_left
      ·simp only [Act.put, List.setIfInBounds_toArray, List.set_cons_zero, List.set_cons_succ, i64_w, i32_w]
       rfl
      refine take_ (i := 13) (N := some 35) (v := ?_) (a' := ?_) #[true, true, true, true, true, true, true, false, false, true, true, true, true, true, true, false, false, false] rfl rfl (take_ofW HT_.out HW_.out (by kernel_rfl)) (fun _ _ _ h => h) (Or.inl ⟨by rfl, ?_⟩) hHeld ?_ ?_
      rotate_left
      ·rintro w' ⟨s0, s1, s2, s3, s4, s5, s6, s7, s8, s9, s10, s11, s12, s13, s14, s15⟩
       go_simp
       with_reducible rfl
      rotate_left
      ·simp only [Act.put, List.setIfInBounds_toArray, List.set_cons_zero, List.set_cons_succ, i64_w, i32_w]
       rfl
      refine one_ (i := 7) (N := some 29) #[true, true, true, true, true, true, true, true, false, true, true, true, true, true, true, false, false, false] rfl rfl (one_of HT_.out (by kernel_rfl)) (by decide) (fun K hK => ?_)
      refine goes_ Try.func25 (by kernel_rfl) rfl #[.slice A704_6 ((rd_T37 l0 x6_1).f4).length c704_6, .int .i64 a1] (by rfl) rfl rfl ab1_ ?_
      with_reducible refine (ih k1 (by have := HK1.out; omega) _ _ ((rd_T37 l0 x6_1).f4) a1 t705 _ ?side1 ?side2 A6.out).mono ?_
      (case side1 => repeat (first | exact (Kd.C_below HR704_6.out HB.out) | (with_reducible refine Kd.C_alloc ?_ _) | (with_reducible refine Kd.C_drewN ?_ _) | (with_reducible refine Kd.C_drew ?_)))
      (case side2 => exact HC704_6.out)
      rintro e w9 ⟨rfl, hb⟩
      refine ⟨_, rfl, ?_⟩
      have n0_ := am (below_step ab2_ hb)
      clear HB
      have HB := n0_
      clear n0_
      (try clear hb)
      (try clear hb2)
      (try clear hk)
      (try clear hi)
      refine hK.out _ _ ⟨((HB.out.cell (World.block_lt_of_cell? w _ hw704_0)).trans hw704_0), ((HB.out.cell (World.block_lt_of_cell? w _ hw704_1)).trans hw704_1), ((HB.out.cell (World.block_lt_of_cell? w _ hw704_2)).trans hw704_2), ((HB.out.cell (World.block_lt_of_cell? w _ hw704_3)).trans hw704_3), ((HB.out.cell (World.block_lt_of_cell? w _ hw704_4)).trans hw704_4), ((HB.out.cell (World.block_lt_of_cell? w _ hw704_5)).trans hw704_5), ((HB.out.cell (World.block_lt_of_cell? w _ hw704_6)).trans hw704_6), ((HB.out.cell (World.block_lt_of_cell? w _ hw704_7)).trans hw704_7), ((HB.out.cell (World.block_lt_of_cell? w _ hw706_0)).trans hw706_0), ((HB.out.cell (World.block_lt_of_cell? w _ hw706_1)).trans hw706_1), ((HB.out.cell (World.block_lt_of_cell? w _ hw706_2)).trans hw706_2), ((HB.out.cell (World.block_lt_of_cell? w _ hw706_3)).trans hw706_3), ((HB.out.cell (World.block_lt_of_cell? w _ hw706_4)).trans hw706_4), ((HB.out.cell (World.block_lt_of_cell? w _ hw706_5)).trans hw706_5), ((HB.out.cell (World.block_lt_of_cell? w _ hw706_6)).trans hw706_6), ((HB.out.cell (World.block_lt_of_cell? w _ hw706_7)).trans hw706_7)⟩ (fun hHeld => ?_)
      clear hK K
      refine norm_ (a' := ?_) ?_ ?_
      rotate_left
      ·show Act.put _ (some 29) _ = _
       simp only [Act.put, List.setIfInBounds_toArray, List.set_cons_zero, List.set_cons_succ, i64_w, i32_w]
       rfl
      refine pure_ (i := 8) (N := some 30) (v := ?_) (a' := ?_) #[true, true, true, true, true, true, true, true, true, true, true, true, true, true, true, false, false, false] rfl rfl (any_of HT_.out (by kernel_rfl)) (fun _ _ _ h => h) (Or.inl ⟨by rfl, ?_⟩) ?_ ?_
      rotate_left
      ·intro w'
       go_simp
       with_reducible rfl
      rotate_left
      ·simp only [Act.put, List.setIfInBounds_toArray, List.set_cons_zero, List.set_cons_succ, i64_w, i32_w]
       rfl
      refine one_ (i := 15) (N := some 37) #[true, true, true, true, true, true, true, true, true, true, true, true, true, true, true, true, false, false] rfl rfl (one_of HT_.out (by kernel_rfl)) (by decide) (fun K hK => ?_)
      refine goes_ Try.func25 (by kernel_rfl) rfl #[.slice A704_7 ((rd_T37 l0 x6_1).f5).length c704_7, .int .i64 a1] (by rfl) rfl rfl ab1_ ?_
      with_reducible refine (ih k1 (by have := HK1.out; omega) _ _ ((rd_T37 l0 x6_1).f5) a1 t707 _ ?side1 ?side2 A7.out).mono ?_
      (case side1 => repeat (first | exact (Kd.C_below HR706_7.out HB.out) | (with_reducible refine Kd.C_alloc ?_ _) | (with_reducible refine Kd.C_drewN ?_ _) | (with_reducible refine Kd.C_drew ?_)))
      (case side2 => exact HC706_7.out)
      rintro e w10 ⟨rfl, hb⟩
      refine ⟨_, rfl, ?_⟩
      have n0_ := am (below_step ab2_ hb)
      clear HB
      have HB := n0_
      clear n0_
      (try clear hb)
      (try clear hb2)
      (try clear hk)
      (try clear hi)
      refine hK.out _ _ ⟨((HB.out.cell (World.block_lt_of_cell? w _ hw704_0)).trans hw704_0), ((HB.out.cell (World.block_lt_of_cell? w _ hw704_1)).trans hw704_1), ((HB.out.cell (World.block_lt_of_cell? w _ hw704_2)).trans hw704_2), ((HB.out.cell (World.block_lt_of_cell? w _ hw704_3)).trans hw704_3), ((HB.out.cell (World.block_lt_of_cell? w _ hw704_4)).trans hw704_4), ((HB.out.cell (World.block_lt_of_cell? w _ hw704_5)).trans hw704_5), ((HB.out.cell (World.block_lt_of_cell? w _ hw704_6)).trans hw704_6), ((HB.out.cell (World.block_lt_of_cell? w _ hw704_7)).trans hw704_7), ((HB.out.cell (World.block_lt_of_cell? w _ hw706_0)).trans hw706_0), ((HB.out.cell (World.block_lt_of_cell? w _ hw706_1)).trans hw706_1), ((HB.out.cell (World.block_lt_of_cell? w _ hw706_2)).trans hw706_2), ((HB.out.cell (World.block_lt_of_cell? w _ hw706_3)).trans hw706_3), ((HB.out.cell (World.block_lt_of_cell? w _ hw706_4)).trans hw706_4), ((HB.out.cell (World.block_lt_of_cell? w _ hw706_5)).trans hw706_5), ((HB.out.cell (World.block_lt_of_cell? w _ hw706_6)).trans hw706_6), ((HB.out.cell (World.block_lt_of_cell? w _ hw706_7)).trans hw706_7)⟩ (fun hHeld => ?_)
      clear hK K
      refine norm_ (a' := ?_) ?_ ?_
      rotate_left
      ·show Act.put _ (some 37) _ = _
       simp only [Act.put, List.setIfInBounds_toArray, List.set_cons_zero, List.set_cons_succ, i64_w, i32_w]
       rfl
      refine pure_ (i := 16) (N := some 38) (v := ?_) (a' := ?_) #[true, true, true, true, true, true, true, true, true, true, true, true, true, true, true, true, true, false] rfl rfl (any_of HT_.out (by kernel_rfl)) (fun _ _ _ h => h) (Or.inl ⟨by rfl, ?_⟩) ?_ ?_
      rotate_left
      ·intro w'
       go_simp
       with_reducible rfl
      rotate_left
      ·simp only [Act.put, List.setIfInBounds_toArray, List.set_cons_zero, List.set_cons_succ, i64_w, i32_w]
       rfl
      refine pure_ (i := 17) (N := some 5) (v := ?_) (a' := ?_) #[true, true, true, true, true, true, true, true, true, true, true, true, true, true, true, true, true, true] rfl rfl (any_of HT_.out (by kernel_rfl)) (fun _ _ _ h => h) (Or.inl ⟨by rfl, ?_⟩) ?_ ?_
      rotate_left
      ·intro w'
       go_simp
       with_reducible rfl
      rotate_left
      ·simp only [Act.put, List.setIfInBounds_toArray, List.set_cons_zero, List.set_cons_succ, i64_w, i32_w]
       rfl
      refine done_ (done_of HT_.out (by kernel_rfl)) ?_
      try go_wp2
      go_roundg k1
      case measure => have := HK1.out; omega
      case rel => exact ⟨(wrap64 ((wrap64 ((wrap64 (x5_1 + 1)) + t705)) + t707)), (wrap64 (x6_1 + 1)), (by first | rfl | (simp; done) | (simp [*]; done)), (by first | rfl | (simp; done) | (simp [*]; done)), H', ⟨by have := HK1.out; omega⟩, ⟨ab2_⟩⟩
     rw [if_neg c5] at H
     have c5b0 : (((rd_T37 l0 x6_1).f0) == a1) = false := beq_eq_false_iff_ne.mpr c5
     have c5b1 : (((rd_T37 l0 x6_1).f0) != a1) = true := bne_iff_ne.mpr c5
     obtain ⟨t709, A110, H⟩ := bsm H
     (try dsimp only at H)
     have A11 := am A110
     clear A110
     obtain ⟨t711, A120, H⟩ := bsm H
     (try dsimp only at H)
     have A12 := am A120
     clear A120
     have H' := am H
     clear H
     have p703 : 0 ≤ (x6_1 : Int) := of_decide_eq_true (by first | (with_reducible assumption) | assumption)
     have q703 : x6_1 < (l0.length : Int) := of_decide_eq_true (by first | (with_reducible assumption) | assumption)
     obtain ⟨ad703, A703_5, c703_5, A703_6, c703_6, A703_7, c703_7, e703, hx703_0, hx703_1, hx703_2, hx703_3, hx703_4, hx703_5, hx703_6, hx703_7, hl703_5, hi703_5, hl703_6, hi703_6, hl703_7, hi703_7⟩ := at_T37 HR0.out x6_1 p703 q703
     cases e703
     replace hx703_0 := (HB.out.cell (World.block_lt_of_cell? w _ hx703_0)).trans hx703_0
     replace hx703_1 := (HB.out.cell (World.block_lt_of_cell? w _ hx703_1)).trans hx703_1
     replace hx703_2 := (HB.out.cell (World.block_lt_of_cell? w _ hx703_2)).trans hx703_2
     replace hx703_3 := (HB.out.cell (World.block_lt_of_cell? w _ hx703_3)).trans hx703_3
     replace hx703_4 := (HB.out.cell (World.block_lt_of_cell? w _ hx703_4)).trans hx703_4
     replace hx703_5 := (HB.out.cell (World.block_lt_of_cell? w _ hx703_5)).trans hx703_5
     replace hx703_6 := (HB.out.cell (World.block_lt_of_cell? w _ hx703_6)).trans hx703_6
     replace hx703_7 := (HB.out.cell (World.block_lt_of_cell? w _ hx703_7)).trans hx703_7
     have HR703_5 := am hi703_5
     have HC703_5 := am hl703_5
     clear hi703_5 hl703_5
     have HR703_6 := am hi703_6
     have HC703_6 := am hl703_6
     clear hi703_6 hl703_6
     have HR703_7 := am hi703_7
     have HC703_7 := am hl703_7
     clear hi703_7 hl703_7
     replace p703 := eq_true p703
     replace q703 := eq_true q703
     try go_wp2
     have n0_ := am (below_drew1 HB.out)
     clear HB
     have HB := n0_
     clear n0_
     have p708 : 0 ≤ (x6_1 : Int) := of_decide_eq_true (by first | (with_reducible assumption) | assumption)
     have q708 : x6_1 < (l0.length : Int) := of_decide_eq_true (by first | (with_reducible assumption) | assumption)
     obtain ⟨ad708, A708_5, c708_5, A708_6, c708_6, A708_7, c708_7, e708, hx708_0, hx708_1, hx708_2, hx708_3, hx708_4, hx708_5, hx708_6, hx708_7, hl708_5, hi708_5, hl708_6, hi708_6, hl708_7, hi708_7⟩ := at_T37 HR0.out x6_1 p708 q708
     have hw708_7 := hx708_7
     have hw708_6 := hx708_6
     have hw708_5 := hx708_5
     have hw708_4 := hx708_4
     have hw708_3 := hx708_3
     have hw708_2 := hx708_2
     have hw708_1 := hx708_1
     have hw708_0 := hx708_0
     obtain rfl : ad703 = ad708 := (by injection e708)
     replace hx708_0 := (HB.out.cell (World.block_lt_of_cell? w _ hx708_0)).trans hx708_0
     replace hx708_1 := (HB.out.cell (World.block_lt_of_cell? w _ hx708_1)).trans hx708_1
     replace hx708_2 := (HB.out.cell (World.block_lt_of_cell? w _ hx708_2)).trans hx708_2
     replace hx708_3 := (HB.out.cell (World.block_lt_of_cell? w _ hx708_3)).trans hx708_3
     replace hx708_4 := (HB.out.cell (World.block_lt_of_cell? w _ hx708_4)).trans hx708_4
     replace hx708_5 := (HB.out.cell (World.block_lt_of_cell? w _ hx708_5)).trans hx708_5
     replace hx708_6 := (HB.out.cell (World.block_lt_of_cell? w _ hx708_6)).trans hx708_6
     replace hx708_7 := (HB.out.cell (World.block_lt_of_cell? w _ hx708_7)).trans hx708_7
     have HR708_5 := am hi708_5
     have HC708_5 := am hl708_5
     clear hi708_5 hl708_5
     have HR708_6 := am hi708_6
     have HC708_6 := am hl708_6
     clear hi708_6 hl708_6
     have HR708_7 := am hi708_7
     have HC708_7 := am hl708_7
     clear hi708_7 hl708_7
     replace p708 := eq_true p708
     replace q708 := eq_true q708
     have p710 : 0 ≤ (x6_1 : Int) := of_decide_eq_true (by first | (with_reducible assumption) | assumption)
     have q710 : x6_1 < (l0.length : Int) := of_decide_eq_true (by first | (with_reducible assumption) | assumption)
     obtain ⟨ad710, A710_5, c710_5, A710_6, c710_6, A710_7, c710_7, e710, hx710_0, hx710_1, hx710_2, hx710_3, hx710_4, hx710_5, hx710_6, hx710_7, hl710_5, hi710_5, hl710_6, hi710_6, hl710_7, hi710_7⟩ := at_T37 HR0.out x6_1 p710 q710
     have hw710_7 := hx710_7
     have hw710_6 := hx710_6
     have hw710_5 := hx710_5
     have hw710_4 := hx710_4
     have hw710_3 := hx710_3
     have hw710_2 := hx710_2
     have hw710_1 := hx710_1
     have hw710_0 := hx710_0
     obtain rfl : ad703 = ad710 := (by injection e710)
     replace hx710_0 := (HB.out.cell (World.block_lt_of_cell? w _ hx710_0)).trans hx710_0
     replace hx710_1 := (HB.out.cell (World.block_lt_of_cell? w _ hx710_1)).trans hx710_1
     replace hx710_2 := (HB.out.cell (World.block_lt_of_cell? w _ hx710_2)).trans hx710_2
     replace hx710_3 := (HB.out.cell (World.block_lt_of_cell? w _ hx710_3)).trans hx710_3
     replace hx710_4 := (HB.out.cell (World.block_lt_of_cell? w _ hx710_4)).trans hx710_4
     replace hx710_5 := (HB.out.cell (World.block_lt_of_cell? w _ hx710_5)).trans hx710_5
     replace hx710_6 := (HB.out.cell (World.block_lt_of_cell? w _ hx710_6)).trans hx710_6
     replace hx710_7 := (HB.out.cell (World.block_lt_of_cell? w _ hx710_7)).trans hx710_7
     have HR710_5 := am hi710_5
     have HC710_5 := am hl710_5
     clear hi710_5 hl710_5
     have HR710_6 := am hi710_6
     have HC710_6 := am hl710_6
     clear hi710_6 hl710_6
     have HR710_7 := am hi710_7
     have HC710_7 := am hl710_7
     clear hi710_7 hl710_7
     replace p710 := eq_true p710
     replace q710 := eq_true q710
     have ea_ := Option.some.inj (hx708_5.symm.trans hx710_5)
     injection ea_ with ea_ en_ ec_
     subst ea_
     subst ec_
     clear en_
     have ea_ := Option.some.inj (hx708_6.symm.trans hx710_6)
     injection ea_ with ea_ en_ ec_
     subst ea_
     subst ec_
     clear en_
     have ea_ := Option.some.inj (hx708_7.symm.trans hx710_7)
     injection ea_ with ea_ en_ ec_
     subst ea_
     subst ec_
     clear en_
     refine start_ (n := 18) (S := fun w' => w'.cell? (ad703.add ((x6_1).toNat * 8)) = some (.int .i64 ((rd_T37 l0 x6_1).f0)) ∧ w'.cell? ⟨(ad703.add ((x6_1).toNat * 8)).block, (ad703.add ((x6_1).toNat * 8)).off + 1, none⟩ = some (.int .i64 ((rd_T37 l0 x6_1).f1)) ∧ w'.cell? ⟨(ad703.add ((x6_1).toNat * 8)).block, (ad703.add ((x6_1).toNat * 8)).off + 2, none⟩ = some (.int .i64 ((rd_T37 l0 x6_1).f2)) ∧ w'.cell? ⟨(ad703.add ((x6_1).toNat * 8)).block, (ad703.add ((x6_1).toNat * 8)).off + 3, none⟩ = some (.int .i64 ((rd_T37 l0 x6_1).f3.f0)) ∧ w'.cell? ⟨(ad703.add ((x6_1).toNat * 8)).block, (ad703.add ((x6_1).toNat * 8)).off + 4, none⟩ = some (.int .i64 ((rd_T37 l0 x6_1).f3.f1)) ∧ w'.cell? ⟨(ad703.add ((x6_1).toNat * 8)).block, (ad703.add ((x6_1).toNat * 8)).off + 5, none⟩ = some (.slice A708_5 ((rd_T37 l0 x6_1).f3.f2).length c708_5) ∧ w'.cell? ⟨(ad703.add ((x6_1).toNat * 8)).block, (ad703.add ((x6_1).toNat * 8)).off + 6, none⟩ = some (.slice A708_6 ((rd_T37 l0 x6_1).f4).length c708_6) ∧ w'.cell? ⟨(ad703.add ((x6_1).toNat * 8)).block, (ad703.add ((x6_1).toNat * 8)).off + 7, none⟩ = some (.slice A708_7 ((rd_T37 l0 x6_1).f5).length c708_7) ∧ w'.cell? (ad703.add ((x6_1).toNat * 8)) = some (.int .i64 ((rd_T37 l0 x6_1).f0)) ∧ w'.cell? ⟨(ad703.add ((x6_1).toNat * 8)).block, (ad703.add ((x6_1).toNat * 8)).off + 1, none⟩ = some (.int .i64 ((rd_T37 l0 x6_1).f1)) ∧ w'.cell? ⟨(ad703.add ((x6_1).toNat * 8)).block, (ad703.add ((x6_1).toNat * 8)).off + 2, none⟩ = some (.int .i64 ((rd_T37 l0 x6_1).f2)) ∧ w'.cell? ⟨(ad703.add ((x6_1).toNat * 8)).block, (ad703.add ((x6_1).toNat * 8)).off + 3, none⟩ = some (.int .i64 ((rd_T37 l0 x6_1).f3.f0)) ∧ w'.cell? ⟨(ad703.add ((x6_1).toNat * 8)).block, (ad703.add ((x6_1).toNat * 8)).off + 4, none⟩ = some (.int .i64 ((rd_T37 l0 x6_1).f3.f1)) ∧ w'.cell? ⟨(ad703.add ((x6_1).toNat * 8)).block, (ad703.add ((x6_1).toNat * 8)).off + 5, none⟩ = some (.slice A708_5 ((rd_T37 l0 x6_1).f3.f2).length c708_5) ∧ w'.cell? ⟨(ad703.add ((x6_1).toNat * 8)).block, (ad703.add ((x6_1).toNat * 8)).off + 6, none⟩ = some (.slice A708_6 ((rd_T37 l0 x6_1).f4).length c708_6) ∧ w'.cell? ⟨(ad703.add ((x6_1).toNat * 8)).block, (ad703.add ((x6_1).toNat * 8)).off + 7, none⟩ = some (.slice A708_7 ((rd_T37 l0 x6_1).f5).length c708_7)) (ds := []) #[false, false, false, false, false, false, false, false, false, false, false, false, false, false, false, false, false, false] (by kernel_rfl) rfl rfl ⟨((HB.out.cell (World.block_lt_of_cell? w _ hw708_0)).trans hw708_0), ((HB.out.cell (World.block_lt_of_cell? w _ hw708_1)).trans hw708_1), ((HB.out.cell (World.block_lt_of_cell? w _ hw708_2)).trans hw708_2), ((HB.out.cell (World.block_lt_of_cell? w _ hw708_3)).trans hw708_3), ((HB.out.cell (World.block_lt_of_cell? w _ hw708_4)).trans hw708_4), ((HB.out.cell (World.block_lt_of_cell? w _ hw708_5)).trans hw708_5), ((HB.out.cell (World.block_lt_of_cell? w _ hw708_6)).trans hw708_6), ((HB.out.cell (World.block_lt_of_cell? w _ hw708_7)).trans hw708_7), ((HB.out.cell (World.block_lt_of_cell? w _ hw710_0)).trans hw710_0), ((HB.out.cell (World.block_lt_of_cell? w _ hw710_1)).trans hw710_1), ((HB.out.cell (World.block_lt_of_cell? w _ hw710_2)).trans hw710_2), ((HB.out.cell (World.block_lt_of_cell? w _ hw710_3)).trans hw710_3), ((HB.out.cell (World.block_lt_of_cell? w _ hw710_4)).trans hw710_4), ((HB.out.cell (World.block_lt_of_cell? w _ hw710_5)).trans hw710_5), ((HB.out.cell (World.block_lt_of_cell? w _ hw710_6)).trans hw710_6), ((HB.out.cell (World.block_lt_of_cell? w _ hw710_7)).trans hw710_7)⟩ (fun hHeld => ?_); refine with_tabW laws_countKind.tab7 laws_countKind.bits7 (fun HT_ HW_ => ?_)
     generalize wr.drew = w13 at HB HR708_5 HR708_6 HR708_7 HR710_5 HR710_6 HR710_7 hx708_0 hx708_1 hx708_2 hx708_3 hx708_4 hx708_5 hx708_6 hx708_7 hx710_0 hx710_1 hx710_2 hx710_3 hx710_4 hx710_5 hx710_6 hx710_7 hHeld ⊢
     refine pure_ (i := 0) (N := some 22) (v := ?_) (a' := ?_) #[true, false, false, false, false, false, false, false, false, false, false, false, false, false, false, false, false, false] rfl rfl (any_of HT_.out (by kernel_rfl)) (fun _ _ _ h => h) (Or.inl ⟨by rfl, ?_⟩) ?_ ?_
     rotate_left
     ·intro w'
      go_simp
      with_reducible rfl
     rotate_left
     ·simp only [Act.put, List.setIfInBounds_toArray, List.set_cons_zero, List.set_cons_succ, i64_w, i32_w]
      rfl
     refine pure_ (i := 1) (N := some 23) (v := ?_) (a' := ?_) #[true, true, false, false, false, false, false, false, false, false, false, false, false, false, false, false, false, false] rfl rfl (any_of HT_.out (by kernel_rfl)) (fun _ _ _ h => h) (Or.inl ⟨by rfl, ?_⟩) ?_ ?_
     rotate_left
     ·intro w'
      go_simp
      with_reducible rfl
     rotate_left
     ·simp only [Act.put, List.setIfInBounds_toArray, List.set_cons_zero, List.set_cons_succ, i64_w, i32_w]
      rfl
     refine pure_ (i := 2) (N := some 24) (v := ?_) (a' := ?_) #[true, true, true, false, false, false, false, false, false, false, false, false, false, false, false, false, false, false] rfl rfl (any_of HT_.out (by kernel_rfl)) (fun _ _ _ h => h) (Or.inl ⟨by rfl, ?_⟩) ?_ ?_
     rotate_left
     ·intro w'
      go_simp
      with_reducible rfl
     rotate_left
     ·simp only [Act.put, List.setIfInBounds_toArray, List.set_cons_zero, List.set_cons_succ, i64_w, i32_w]
      rfl
     refine pure_ (i := 3) (N := some 25) (v := ?_) (a' := ?_) #[true, true, true, true, false, false, false, false, false, false, false, false, false, false, false, false, false, false] rfl rfl (any_of HT_.out (by kernel_rfl)) (fun _ _ _ h => h) (Or.inl ⟨by rfl, ?_⟩) ?_ ?_
     rotate_left
     ·intro w'
      go_simp
      with_reducible rfl
     rotate_left
     ·simp only [Act.put, List.setIfInBounds_toArray, List.set_cons_zero, List.set_cons_succ, i64_w, i32_w]
      rfl
     refine pure_ (i := 4) (N := some 26) (v := ?_) (a' := ?_) #[true, true, true, true, true, false, false, false, false, false, false, false, false, false, false, false, false, false] rfl rfl (any_of HT_.out (by kernel_rfl)) (fun _ _ _ h => h) (Or.inl ⟨by rfl, ?_⟩) ?_ ?_
     rotate_left
     ·intro w'
      go_simp
      with_reducible rfl
     rotate_left
     ·simp only [Act.put, List.setIfInBounds_toArray, List.set_cons_zero, List.set_cons_succ, i64_w, i32_w]
      rfl
     refine pure_ (i := 6) (N := some 28) (v := ?_) (a' := ?_) #[true, true, true, true, true, false, true, false, false, false, false, false, false, false, false, false, false, false] rfl rfl (any_of HT_.out (by kernel_rfl)) (fun _ _ _ h => h) (Or.inl ⟨by rfl, ?_⟩) ?_ ?_
     rotate_left
     ·intro w'
      go_simp
      with_reducible rfl
     rotate_left
     ·simp only [Act.put, List.setIfInBounds_toArray, List.set_cons_zero, List.set_cons_succ, i64_w, i32_w]
      rfl
     refine pure_ (i := 9) (N := some 31) (v := ?_) (a' := ?_) #[true, true, true, true, true, false, true, false, false, true, false, false, false, false, false, false, false, false] rfl rfl (any_of HT_.out (by kernel_rfl)) (fun _ _ _ h => h) (Or.inl ⟨by rfl, ?_⟩) ?_ ?_
     rotate_left
     ·intro w'
      go_simp
      with_reducible rfl
     rotate_left
     ·simp only [Act.put, List.setIfInBounds_toArray, List.set_cons_zero, List.set_cons_succ, i64_w, i32_w]
      rfl
     refine pure_ (i := 10) (N := some 32) (v := ?_) (a' := ?_) #[true, true, true, true, true, false, true, false, false, true, true, false, false, false, false, false, false, false] rfl rfl (any_of HT_.out (by kernel_rfl)) (fun _ _ _ h => h) (Or.inl ⟨by rfl, ?_⟩) ?_ ?_
     rotate_left
     ·intro w'
      go_simp
      with_reducible rfl
     rotate_left
     ·simp only [Act.put, List.setIfInBounds_toArray, List.set_cons_zero, List.set_cons_succ, i64_w, i32_w]
      rfl
     refine pure_ (i := 11) (N := some 33) (v := ?_) (a' := ?_) #[true, true, true, true, true, false, true, false, false, true, true, true, false, false, false, false, false, false] rfl rfl (any_of HT_.out (by kernel_rfl)) (fun _ _ _ h => h) (Or.inl ⟨by rfl, ?_⟩) ?_ ?_
     rotate_left
     ·intro w'
      go_simp
      with_reducible rfl
     rotate_left
     ·simp only [Act.put, List.setIfInBounds_toArray, List.set_cons_zero, List.set_cons_succ, i64_w, i32_w]
      rfl
     refine pure_ (i := 12) (N := some 34) (v := ?_) (a' := ?_) #[true, true, true, true, true, false, true, false, false, true, true, true, true, false, false, false, false, false] rfl rfl (any_of HT_.out (by kernel_rfl)) (fun _ _ _ h => h) (Or.inl ⟨by rfl, ?_⟩) ?_ ?_
     rotate_left
     ·intro w'
      go_simp
      with_reducible rfl
     rotate_left
     ·simp only [Act.put, List.setIfInBounds_toArray, List.set_cons_zero, List.set_cons_succ, i64_w, i32_w]
      rfl
     refine pure_ (i := 14) (N := some 36) (v := ?_) (a' := ?_) #[true, true, true, true, true, false, true, false, false, true, true, true, true, false, true, false, false, false] rfl rfl (any_of HT_.out (by kernel_rfl)) (fun _ _ _ h => h) (Or.inl ⟨by rfl, ?_⟩) ?_ ?_
     rotate_left
     ·intro w'
      go_simp
      with_reducible rfl
     rotate_left
     ·simp only [Act.put, List.setIfInBounds_toArray, List.set_cons_zero, List.set_cons_succ, i64_w, i32_w]
      rfl
     refine take_ (i := 5) (N := some 27) (v := ?_) (a' := ?_) #[true, true, true, true, true, true, true, false, false, true, true, true, true, false, true, false, false, false] rfl rfl (take_ofW HT_.out HW_.out (by kernel_rfl)) (fun _ _ _ h => h) (Or.inl ⟨by rfl, ?_⟩) hHeld ?_ ?_
     rotate_left
     ·rintro w' ⟨s0, s1, s2, s3, s4, s5, s6, s7, s8, s9, s10, s11, s12, s13, s14, s15⟩
      go_simp
      with_reducible rfl
     rotate_left
     ·simp only [Act.put, List.setIfInBounds_toArray, List.set_cons_zero, List.set_cons_succ, i64_w, i32_w]
      rfl
     refine take_ (i := 13) (N := some 35) (v := ?_) (a' := ?_) #[true, true, true, true, true, true, true, false, false, true, true, true, true, true, true, false, false, false] rfl rfl (take_ofW HT_.out HW_.out (by kernel_rfl)) (fun _ _ _ h => h) (Or.inl ⟨by rfl, ?_⟩) hHeld ?_ ?_
     rotate_left
     ·rintro w' ⟨s0, s1, s2, s3, s4, s5, s6, s7, s8, s9, s10, s11, s12, s13, s14, s15⟩
      go_simp
      with_reducible rfl
     rotate_left
     ·simp only [Act.put, List.setIfInBounds_toArray, List.set_cons_zero, List.set_cons_succ, i64_w, i32_w]
      rfl
     refine one_ (i := 7) (N := some 29) #[true, true, true, true, true, true, true, true, false, true, true, true, true, true, true, false, false, false] rfl rfl (one_of HT_.out (by kernel_rfl)) (by decide) (fun K hK => ?_)
     refine goes_ Try.func25 (by kernel_rfl) rfl #[.slice A708_6 ((rd_T37 l0 x6_1).f4).length c708_6, .int .i64 a1] (by rfl) rfl rfl ab1_ ?_
     with_reducible refine (ih k1 (by have := HK1.out; omega) _ _ ((rd_T37 l0 x6_1).f4) a1 t709 _ ?side1 ?side2 A11.out).mono ?_
     (case side1 => repeat (first | exact (Kd.C_below HR708_6.out HB.out) | (with_reducible refine Kd.C_alloc ?_ _) | (with_reducible refine Kd.C_drewN ?_ _) | (with_reducible refine Kd.C_drew ?_)))
     (case side2 => exact HC708_6.out)
     rintro e w14 ⟨rfl, hb⟩
     refine ⟨_, rfl, ?_⟩
     have n0_ := am (below_step ab2_ hb)
     clear HB
     have HB := n0_
     clear n0_
     (try clear hb)
     (try clear hb2)
     (try clear hk)
     (try clear hi)
     refine hK.out _ _ ⟨((HB.out.cell (World.block_lt_of_cell? w _ hw708_0)).trans hw708_0), ((HB.out.cell (World.block_lt_of_cell? w _ hw708_1)).trans hw708_1), ((HB.out.cell (World.block_lt_of_cell? w _ hw708_2)).trans hw708_2), ((HB.out.cell (World.block_lt_of_cell? w _ hw708_3)).trans hw708_3), ((HB.out.cell (World.block_lt_of_cell? w _ hw708_4)).trans hw708_4), ((HB.out.cell (World.block_lt_of_cell? w _ hw708_5)).trans hw708_5), ((HB.out.cell (World.block_lt_of_cell? w _ hw708_6)).trans hw708_6), ((HB.out.cell (World.block_lt_of_cell? w _ hw708_7)).trans hw708_7), ((HB.out.cell (World.block_lt_of_cell? w _ hw710_0)).trans hw710_0), ((HB.out.cell (World.block_lt_of_cell? w _ hw710_1)).trans hw710_1), ((HB.out.cell (World.block_lt_of_cell? w _ hw710_2)).trans hw710_2), ((HB.out.cell (World.block_lt_of_cell? w _ hw710_3)).trans hw710_3), ((HB.out.cell (World.block_lt_of_cell? w _ hw710_4)).trans hw710_4), ((HB.out.cell (World.block_lt_of_cell? w _ hw710_5)).trans hw710_5), ((HB.out.cell (World.block_lt_of_cell? w _ hw710_6)).trans hw710_6), ((HB.out.cell (World.block_lt_of_cell? w _ hw710_7)).trans hw710_7)⟩ (fun hHeld => ?_)
     clear hK K
     refine norm_ (a' := ?_) ?_ ?_
     rotate_left
     ·show Act.put _ (some 29) _ = _
      simp only [Act.put, List.setIfInBounds_toArray, List.set_cons_zero, List.set_cons_succ, i64_w, i32_w]
      rfl
     refine pure_ (i := 8) (N := some 30) (v := ?_) (a' := ?_) #[true, true, true, true, true, true, true, true, true, true, true, true, true, true, true, false, false, false] rfl rfl (any_of HT_.out (by kernel_rfl)) (fun _ _ _ h => h) (Or.inl ⟨by rfl, ?_⟩) ?_ ?_
     rotate_left
     ·intro w'
      go_simp
      with_reducible rfl
     rotate_left
     ·simp only [Act.put, List.setIfInBounds_toArray, List.set_cons_zero, List.set_cons_succ, i64_w, i32_w]
      rfl
     refine one_ (i := 15) (N := some 37) #[true, true, true, true, true, true, true, true, true, true, true, true, true, true, true, true, false, false] rfl rfl (one_of HT_.out (by kernel_rfl)) (by decide) (fun K hK => ?_)
     refine goes_ Try.func25 (by kernel_rfl) rfl #[.slice A708_7 ((rd_T37 l0 x6_1).f5).length c708_7, .int .i64 a1] (by rfl) rfl rfl ab1_ ?_
     with_reducible refine (ih k1 (by have := HK1.out; omega) _ _ ((rd_T37 l0 x6_1).f5) a1 t711 _ ?side1 ?side2 A12.out).mono ?_
     (case side1 => repeat (first | exact (Kd.C_below HR710_7.out HB.out) | (with_reducible refine Kd.C_alloc ?_ _) | (with_reducible refine Kd.C_drewN ?_ _) | (with_reducible refine Kd.C_drew ?_)))
     (case side2 => exact HC710_7.out)
     rintro e w15 ⟨rfl, hb⟩
     refine ⟨_, rfl, ?_⟩
     have n0_ := am (below_step ab2_ hb)
     clear HB
     have HB := n0_
     clear n0_
     (try clear hb)
     (try clear hb2)
     (try clear hk)
     (try clear hi)
     refine hK.out _ _ ⟨((HB.out.cell (World.block_lt_of_cell? w _ hw708_0)).trans hw708_0), ((HB.out.cell (World.block_lt_of_cell? w _ hw708_1)).trans hw708_1), ((HB.out.cell (World.block_lt_of_cell? w _ hw708_2)).trans hw708_2), ((HB.out.cell (World.block_lt_of_cell? w _ hw708_3)).trans hw708_3), ((HB.out.cell (World.block_lt_of_cell? w _ hw708_4)).trans hw708_4), ((HB.out.cell (World.block_lt_of_cell? w _ hw708_5)).trans hw708_5), ((HB.out.cell (World.block_lt_of_cell? w _ hw708_6)).trans hw708_6), ((HB.out.cell (World.block_lt_of_cell? w _ hw708_7)).trans hw708_7), ((HB.out.cell (World.block_lt_of_cell? w _ hw710_0)).trans hw710_0), ((HB.out.cell (World.block_lt_of_cell? w _ hw710_1)).trans hw710_1), ((HB.out.cell (World.block_lt_of_cell? w _ hw710_2)).trans hw710_2), ((HB.out.cell (World.block_lt_of_cell? w _ hw710_3)).trans hw710_3), ((HB.out.cell (World.block_lt_of_cell? w _ hw710_4)).trans hw710_4), ((HB.out.cell (World.block_lt_of_cell? w _ hw710_5)).trans hw710_5), ((HB.out.cell (World.block_lt_of_cell? w _ hw710_6)).trans hw710_6), ((HB.out.cell (World.block_lt_of_cell? w _ hw710_7)).trans hw710_7)⟩ (fun hHeld => ?_)
     clear hK K
     refine norm_ (a' := ?_) ?_ ?_
     rotate_left
     ·show Act.put _ (some 37) _ = _
      simp only [Act.put, List.setIfInBounds_toArray, List.set_cons_zero, List.set_cons_succ, i64_w, i32_w]
      rfl
     refine pure_ (i := 16) (N := some 38) (v := ?_) (a' := ?_) #[true, true, true, true, true, true, true, true, true, true, true, true, true, true, true, true, true, false] rfl rfl (any_of HT_.out (by kernel_rfl)) (fun _ _ _ h => h) (Or.inl ⟨by rfl, ?_⟩) ?_ ?_
     rotate_left
     ·intro w'
      go_simp
      with_reducible rfl
     rotate_left
     ·simp only [Act.put, List.setIfInBounds_toArray, List.set_cons_zero, List.set_cons_succ, i64_w, i32_w]
      rfl
     refine pure_ (i := 17) (N := some 5) (v := ?_) (a' := ?_) #[true, true, true, true, true, true, true, true, true, true, true, true, true, true, true, true, true, true] rfl rfl (any_of HT_.out (by kernel_rfl)) (fun _ _ _ h => h) (Or.inl ⟨by rfl, ?_⟩) ?_ ?_
     rotate_left
     ·intro w'
      go_simp
      with_reducible rfl
     rotate_left
     ·simp only [Act.put, List.setIfInBounds_toArray, List.set_cons_zero, List.set_cons_succ, i64_w, i32_w]
      rfl
     refine done_ (done_of HT_.out (by kernel_rfl)) ?_
     try go_wp2
     go_roundg k1
     case measure => have := HK1.out; omega
     case rel => exact ⟨(wrap64 ((wrap64 (x5_1 + t709)) + t711)), (wrap64 (x6_1 + 1)), (by first | rfl | (simp; done) | (simp [*]; done)), (by first | rfl | (simp; done) | (simp [*]; done)), H', ⟨by have := HK1.out; omega⟩, ⟨ab2_⟩⟩
    rw [if_neg c4] at H
    exact absurd H (by simp)
   rw [if_neg c3] at H
   have c3b0 : decide (x6_1 < (l0.length : Int)) = false := decide_eq_false c3
   clear c3
   obtain rfl := Option.some.inj H
   go_wp2
   go_ret
   exact ⟨rr_, ab2_⟩
theorem numlit_FnPlain_ (a : Int) (w : World) : Calls Try.prog 16 #[.int .i64 a] w fun e w' => ∃ A c, e = .returned (.agg #[.int .i64 0, .int .i64 a, .slice A 0 c]) ∧ Below w.heap.size w w' := by
 refine (laws_number.calls a 0 a [] w rfl).mono ?_
 rintro e w' ⟨v, rfl, hr, hb⟩
 obtain ⟨A, c, rfl⟩ := Kd.N_slice (Kd.R_N hr)
 exact ⟨A, c, rfl, hb⟩
def laws_FnPlain.s (k : Nat) : List (List S37) → Option Int
 | [] => some 0
 | t :: ts => (laws_countKind.f k t 3).bind fun x => if x = 0 then laws_FnPlain.s k ts else none
theorem laws_FnPlain.s_at (k : Nat) : ∀ (ts : List (List S37)) (u : Int), laws_FnPlain.s k ts = some u → ∀ j (h : j < ts.length), laws_countKind.f k ts[j] 3 = some 0
 | [], _, _, _, h => absurd h (Nat.not_lt_zero _)
 | t :: ts, u, hu, j, h => by
  simp only [laws_FnPlain.s] at hu
  obtain ⟨x, hx, hu⟩ := Option.bind_eq_some_iff.mp hu
  by_cases e : x = 0
  ·rw [if_pos e] at hu
   subst e
   cases j with
   | zero => exact hx
   | succ j => exact laws_FnPlain.s_at k ts u hu j (by simpa using h)
  rw [if_neg e] at hu
  cases hu
def laws_FnPlain.f (k : Nat) (l0 : List Int) : Option Bool := if (l0.length : Int) > 1048576 then some true else ((spec_DrawProgramPlain.f k l0).bind fun d => (impl_ProgramPlain.f k d.1 d.2).bind fun a => (spec_ProgramPlain.f k d.1 d.2).bind fun b => if (a != b || !a) = true then some (a == b) else if 1 ≤ d.2.length then (if d.2.length < 1000 then ((laws_FnPlain.s k d.2).bind fun _ => (impl_ProgramValid.f k d.1 d.2).bind fun x => if x = true then ((impl_ProgramValid.f k d.1 ([[(⟨3, 0, 0, ⟨0, 1, []⟩, [], []⟩ : S37)]] ++ d.2.drop 1)).bind fun y => if y = true then ((impl_ProgramPlain.f k d.1 ([[(⟨3, 0, 0, ⟨0, 1, []⟩, [], []⟩ : S37)]] ++ d.2.drop 1)).bind fun z => some (!z)) else none) else none) else none) else none)
structure FP13 (W0 : World) (g3 : Nat) (A0 : Option Addr) (c0 : Nat) (l0 : List Int) (A : Option Addr) (c : Nat) (rs : List Int) (A' : Option Addr) (c' : Nat) (ts : List (List S37)) (A1 : Option Addr) (c1 : Nat) (td zs : List (List S37)) (u33 u34 u35 u36 u37 u38 u39 u40 u41 u42 : Value) (A45 : Option Addr) (c45 : Nat) (A47 : Option Addr) (c47 : Nat) (A48 : Option Addr) (c48 : Nat) (A52 : Option Addr) (c52 : Nat) (g8 : Nat) (b4 b5 b9 b11 b12 : Bool) (W : World) : Prop where
 hB : Below W0.heap.size W0 W
 h47 : b4 = true → b5 = false → Kd.N k37 37 W W0.heap.size (fun q => (b11 = true → q ≠ g8) ∧ W0.heap.size ≤ W0.heap.size) (.slice A47 1 c47) [(⟨3, 0, 0, ⟨0, 1, []⟩, [], []⟩ : S37)]
 h48 : b5 = true → b9 = false → Kd.N (Kd.slice 37 k37) 31 W W0.heap.size (fun q => (b11 = true → q ≠ g8) ∧ W0.heap.size ≤ W0.heap.size) (.slice A48 1 c48) [[(⟨3, 0, 0, ⟨0, 1, []⟩, [], []⟩ : S37)]]
 h52 : b9 = true → True → Kd.N (Kd.slice 37 k37) 31 W W0.heap.size (fun q => (b11 = true → q ≠ g8) ∧ W0.heap.size ≤ W0.heap.size) (.slice A52 zs.length c52) zs
 hx : b11 = true → W0.heap.size ≤ g8 ∧ W.heap[g8]? = some (.cells (cond b12 #[(.slice A rs.length c), (.slice A52 zs.length c52)] #[(.slice none 0 0), (.slice none 0 0)]) 26 (0, 0))
theorem FP13.ext {W0 : World} {g3 : Nat} {A0 : Option Addr} {c0 : Nat} {l0 : List Int} {A : Option Addr} {c : Nat} {rs : List Int} {A' : Option Addr} {c' : Nat} {ts : List (List S37)} {A1 : Option Addr} {c1 : Nat} {td zs : List (List S37)} {u33 u34 u35 u36 u37 u38 u39 u40 u41 u42 : Value} {A45 : Option Addr} {c45 : Nat} {A47 : Option Addr} {c47 : Nat} {A48 : Option Addr} {c48 : Nat} {A52 : Option Addr} {c52 : Nat} {g8 : Nat} {b4 b5 b9 b11 b12 : Bool} {W W' : World} (h : FP13 W0 g3 A0 c0 l0 A c rs A' c' ts A1 c1 td zs u33 u34 u35 u36 u37 u38 u39 u40 u41 u42 A45 c45 A47 c47 A48 c48 A52 c52 g8 b4 b5 b9 b11 b12 W) (hb : Below W.heap.size W W') : FP13 W0 g3 A0 c0 l0 A c rs A' c' ts A1 c1 td zs u33 u34 u35 u36 u37 u38 u39 u40 u41 u42 A45 c45 A47 c47 A48 c48 A52 c52 g8 b4 b5 b9 b11 b12 W' := ⟨below_step h.hB hb, fun e f => Kd.N_below (h.h47 e f) hb, fun e f => Kd.N_below (h.h48 e f) hb, fun e f => Kd.N_below (h.h52 e f) hb, fun e => ⟨(h.hx e).1, blk_below (h.hx e).2 hb⟩⟩
def aP13 (W0 : World) (g3 : Nat) (A0 : Option Addr) (c0 : Nat) (l0 : List Int) (A : Option Addr) (c : Nat) (rs : List Int) (A' : Option Addr) (c' : Nat) (ts : List (List S37)) (A1 : Option Addr) (c1 : Nat) (td zs : List (List S37)) (u33 u34 u35 u36 u37 u38 u39 u40 u41 u42 : Value) (A45 : Option Addr) (c45 : Nat) (A47 : Option Addr) (c47 : Nat) (A48 : Option Addr) (c48 : Nat) (A52 : Option Addr) (c52 : Nat) (g8 : Nat) (b0 b1 b2 b3 b4 b5 b6 b7 b8 b9 b10 b11 b12 : Bool) : Act :=
 { tmps := #[(.slice A0 l0.length c0), undef, (.bool false), (.pointer (some ⟨g3, 0, none⟩)), (.bool true), (.bool true), (.int .i64 0), (.int .i64 (ts.length : Int)), cond b11 (.pointer (some ⟨g8, 0, none⟩)) undef, (.slice A0 l0.length c0), (.int .i64 (l0.length : Int)), (.bool false), (.slice A0 l0.length c0), (.agg #[(.slice A rs.length c), (.slice A' ts.length c')]), (.agg #[(.slice A rs.length c), (.slice A' ts.length c')]), (.bool true), (.agg #[(.slice A rs.length c), (.slice A' ts.length c')]), (.bool true), (.bool true), (.bool true), (.bool false), (.bool false), (.bool true), (.bool false), (.bool false), undef, undef, undef, (.int .i64 (ts.length : Int)), (.pointer (some ⟨g3, 1, none⟩)), (.slice A' ts.length c'), (.int .i64 (ts.length : Int)), (.bool false), u33, u34, u35, u36, u37, u38, u39, u40, u41, u42, cond b0 (.pointer (some ⟨g3, 0, none⟩)) undef, cond b1 (.slice A rs.length c) undef, cond b2 (.agg #[.int .i64 0, .int .i64 1, .slice A45 0 c45]) undef, cond b3 (.agg #[(.int .i64 3), (.int .i64 0), (.int .i64 0), (.int .i64 0), (.int .i64 1), (.slice A45 0 c45), (.slice none 0 0), (.slice none 0 0)]) undef, cond b4 (.slice A47 1 c47) undef, cond b5 (.slice A48 1 c48) undef, cond b6 (.pointer (some ⟨g3, 1, none⟩)) undef, cond b7 (.slice A' ts.length c') undef, cond b8 (.slice A1 td.length c1) undef, cond b9 (.slice A52 zs.length c52) undef, cond b10 (.agg #[(.slice A rs.length c), (.slice A52 zs.length c52)]) undef, undef, undef, undef, undef, undef, undef, undef, undef, undef, undef, undef, undef, undef, undef, undef], defers := [] }
def LP13 (W0 : World) (g3 : Nat) (A0 : Option Addr) (c0 : Nat) (l0 : List Int) (A : Option Addr) (c : Nat) (rs : List Int) (A' : Option Addr) (c' : Nat) (ts : List (List S37)) (A1 : Option Addr) (c1 : Nat) (td zs : List (List S37)) (u33 u34 u35 u36 u37 u38 u39 u40 u41 u42 : Value) (b0 b1 b2 b3 b4 b5 b6 b7 b8 b9 b10 b11 b12 : Bool) (a : Act) (W : World) : Prop :=
 ∃ (A45 : Option Addr) (c45 : Nat) (A47 : Option Addr) (c47 : Nat) (A48 : Option Addr) (c48 : Nat) (A52 : Option Addr) (c52 : Nat) (g8 : Nat), a = aP13 W0 g3 A0 c0 l0 A c rs A' c' ts A1 c1 td zs u33 u34 u35 u36 u37 u38 u39 u40 u41 u42 A45 c45 A47 c47 A48 c48 A52 c52 g8 b0 b1 b2 b3 b4 b5 b6 b7 b8 b9 b10 b11 b12 ∧ FP13 W0 g3 A0 c0 l0 A c rs A' c' ts A1 c1 td zs u33 u34 u35 u36 u37 u38 u39 u40 u41 u42 A45 c45 A47 c47 A48 c48 A52 c52 g8 b4 b5 b9 b11 b12 W
theorem stop_FnPlain_ {p : Prop} (h : Aside0 p) : p := h.out
theorem laws_FnPlain.calls (k : Nat) (A0 : Option Addr) (c0 : Nat) (l0 : List Int) (r : Bool) (w : World) (hr0 : Kd.C (Kd.int .u8) w A0 l0.length l0) (hc0 : l0.length ≤ c0) (h : laws_FnPlain.f k l0 = some r) :
    Calls Try.prog 9 #[.slice A0 l0.length c0] w fun e w' => e = .returned (.bool r) ∧ Below w.heap.size w w' := by
  unfold laws_FnPlain.f at h
  by_cases c1 : (l0.length : Int) > 1048576
  · rw [if_pos c1] at h
    obtain rfl := Option.some.inj h
    have c1b : decide (1048576 < (l0.length : Int)) = true := decide_eq_true c1
    have c1c : decide ((l0.length : Int) > 1048576) = true := decide_eq_true c1
    go_enter Try.func9, Try.ntmps9
    go_wp2
    go_ret
    exact ⟨rfl, ab93_⟩
  rw [if_neg c1] at h
  have c1b : decide (1048576 < (l0.length : Int)) = false := decide_eq_false c1
  have c1c : decide ((l0.length : Int) > 1048576) = false := decide_eq_false c1
  replace h := Option.bind_eq_some_iff.mp h
  obtain ⟨⟨rs, ts⟩, hd, h⟩ := h
  replace h := Option.bind_eq_some_iff.mp h
  obtain ⟨a, ha, h⟩ := h
  replace h := Option.bind_eq_some_iff.mp h
  obtain ⟨b, hb, h⟩ := h
  dsimp only at ha hb h
  have HR := am hr0
  have HC := am hc0
  have HD := am hd
  have HA := am ha
  have HB := am hb
  clear hr0 hc0 hd ha hb c1
  by_cases c2 : (a != b || !a) = true
  · rw [if_pos c2] at h
    obtain rfl := Option.some.inj h
    cases a <;> cases b <;> first
      | (exact absurd c2 (by decide))
      | (clear c2
         go_enter Try.func9, Try.ntmps9
         go_wp2_with (first | ((with_reducible refine gate_callee (f := 22) rfl ?_); refine goesL_ (some 13) rfl rfl Try.func22 (by kernel_rfl) rfl #[(.slice A0 l0.length c0)] rfl (by (try simp only [List.map_toArray, List.map_cons, List.map_nil]); first | done | rfl) ?_; (with_reducible refine (spec_DrawProgramPlain.calls k A0 c0 l0 rs ts _ HR.out HC.out HD.out).mono ?_); rintro e w1 ⟨v1, v2, rfl, hn, hn2, hb⟩; refine ⟨_, rfl, ?_⟩; obtain ⟨A, c, rfl⟩ := Kd.R_slice hn; obtain ⟨A', c', rfl⟩ := Kd.N_slice hn2; have HNR := am (Kd.N_mono (ok' := fun _ => True) (Kd.R_N hn) (fun _ _ => trivial)); have HNT := am (Kd.N_mono (ok' := fun _ => True) hn2 (fun _ _ => trivial)); have HL := am (Kd.R_reads' hn).2.1; have HTL := am (Kd.N_reads' hn2).2.1; have BW := am hb; have BT := am (Below.refl w1.heap.size w1); clear hn hn2 hb) | ((with_reducible refine gate_dst (N := 3) rfl ?_); refine box_event (N := 3) ?hg ?hd (cs := #[(.slice none 0 0), (.slice none 0 0)]) (t := 26) ?hr ?_; (case hd => rfl); (case hg => rfl); (case hr => first | (go_simp; done) | (go_simp; rfl)); intro g3 hg w2 hbox hb; have GE := am (hg : _ = _); have X := am hbox; have HBX := am hb; have z0 : w2.cell? ⟨g3, 0, none⟩ = some (.slice none 0 0) := blk_cell hbox 0; have f0 := blk_frozen hbox 0; have z1 : w2.cell? ⟨g3, 1, none⟩ = some (.slice none 0 0) := blk_cell hbox 1; have f1 := blk_frozen hbox 1; clear hbox hb hg) | ((with_reducible refine gate_callee (f := 23) rfl ?_); refine stop_FnPlain_ ?_) | fail)
         refine ⟨?_⟩
         have hb := (below_set (j := 1) (v := (.slice A' ts.length c')) (below_set (j := 0) (v := (.slice A rs.length c)) HBX.out (Nat.le_of_eq GE.out.symm)) (Nat.le_of_eq GE.out.symm))
         have x_ := am (blk_put (cs' := #[(.slice A rs.length c), (.slice A' ts.length c')]) (blk_put (cs' := #[(.slice A rs.length c), (.slice none 0 0)]) X.out 0 (.slice A rs.length c) rfl) 1 (.slice A' ts.length c') rfl)
         clear z0 z1 f0 f1 X HBX GE
         generalize ((w2.setCell ⟨g3, 0, none⟩ (.slice A rs.length c)).setCell ⟨g3, 1, none⟩ (.slice A' ts.length c')) = w3 at x_ hb ⊢
         have t_ := am (below_step BT.out hb)
         clear BT
         have BT := t_
         clear t_
         have B3 := x_
         clear x_ hb
         have p3_0 : w3.cell? ⟨g3, 0, none⟩ = some (.slice A rs.length c) := blk_cell B3.out 0
         have p3_1 : w3.cell? ⟨g3, 1, none⟩ = some (.slice A' ts.length c') := blk_cell B3.out 1
         go_wp2_with (first | ((with_reducible refine gate_callee (f := 23) rfl ?_); refine goesL_ (some 15) rfl rfl Try.func23 (by kernel_rfl) rfl #[(.agg #[(.slice A rs.length c), (.slice A' ts.length c')])] rfl (by (try simp only [List.map_toArray, List.map_cons, List.map_nil]); first | done | rfl) ?_; (with_reducible refine (impl_ProgramPlain.calls k A c rs A' c' ts _ _ (Kd.C_below (Kd.N_reads' HNR.out).2.2 BT.out) HL.out (Kd.C_below (Kd.N_reads' HNT.out).2.2 BT.out) HTL.out HA.out).mono ?_); rintro e w4 ⟨rfl, hb⟩; refine ⟨_, rfl, ?_⟩; (try clear p3_0 p3_1); have t_ := am (below_step BT.out hb); have t3_ := am (blk_below B3.out hb); clear BT B3; have BT := t_; have B3 := t3_; clear t_ t3_ hb; have p3_0 : w4.cell? ⟨g3, 0, none⟩ = some (.slice A rs.length c) := blk_cell B3.out 0; have p3_1 : w4.cell? ⟨g3, 1, none⟩ = some (.slice A' ts.length c') := blk_cell B3.out 1) | ((with_reducible refine gate_callee (f := 24) rfl ?_); refine goesL_ (some 17) rfl rfl Try.func24 (by kernel_rfl) rfl #[(.agg #[(.slice A rs.length c), (.slice A' ts.length c')])] rfl (by (try simp only [List.map_toArray, List.map_cons, List.map_nil]); first | done | rfl) ?_; (with_reducible refine (spec_ProgramPlain.calls k A c rs A' c' ts _ _ (Kd.C_below (Kd.N_reads' HNR.out).2.2 BT.out) HL.out (Kd.C_below (Kd.N_reads' HNT.out).2.2 BT.out) HTL.out HB.out).mono ?_); rintro e w5 ⟨rfl, hb⟩; refine ⟨_, rfl, ?_⟩; (try clear p3_0 p3_1); have t_ := am (below_step BT.out hb); have t3_ := am (blk_below B3.out hb); clear BT B3; have BT := t_; have B3 := t3_; clear t_ t3_ hb; have p3_0 : w5.cell? ⟨g3, 0, none⟩ = some (.slice A rs.length c) := blk_cell B3.out 0; have p3_1 : w5.cell? ⟨g3, 1, none⟩ = some (.slice A' ts.length c') := blk_cell B3.out 1) | fail)
         go_ret
         exact ⟨rfl, below_step BW.out BT.out⟩)
  rw [if_neg c2] at h
  obtain ⟨rfl, rfl⟩ : a = true ∧ b = true := by
    revert c2
    cases a <;> cases b <;> simp
  clear c2
  by_cases c3 : 1 ≤ ts.length
  case neg =>
    rw [if_neg c3] at h
    exact absurd h (by simp)
  rw [if_pos c3] at h
  by_cases c4 : ts.length < 1000
  case neg =>
    rw [if_neg c4] at h
    exact absurd h (by simp)
  rw [if_pos c4] at h
  replace h := Option.bind_eq_some_iff.mp h
  obtain ⟨u, hu, h⟩ := h
  have HS := am (laws_FnPlain.s_at k ts u hu)
  clear hu u
  replace h := Option.bind_eq_some_iff.mp h
  obtain ⟨x, hx, h⟩ := h
  cases x with
  | false => exact absurd h (by simp)
  | true =>
  rw [if_pos rfl] at h
  replace h := Option.bind_eq_some_iff.mp h
  obtain ⟨y, hy, h⟩ := h
  cases y with
  | false => exact absurd h (by simp)
  | true =>
  rw [if_pos rfl] at h
  replace h := Option.bind_eq_some_iff.mp h
  obtain ⟨z, hz, h⟩ := h
  obtain rfl := Option.some.inj h
  have LM1 := am c3
  have LM := am c4
  have HX := am hx
  have HY := am hy
  have HZ := am hz
  clear c3 c4 hx hy hz h
  go_enter Try.func9, Try.ntmps9
  go_wp2_with (first | ((with_reducible refine gate_callee (f := 22) rfl ?_); refine goesL_ (some 13) rfl rfl Try.func22 (by kernel_rfl) rfl #[(.slice A0 l0.length c0)] rfl (by (try simp only [List.map_toArray, List.map_cons, List.map_nil]); first | done | rfl) ?_; (with_reducible refine (spec_DrawProgramPlain.calls k A0 c0 l0 rs ts _ HR.out HC.out HD.out).mono ?_); rintro e w1 ⟨v1, v2, rfl, hn, hn2, hb⟩; refine ⟨_, rfl, ?_⟩; obtain ⟨A, c, rfl⟩ := Kd.R_slice hn; obtain ⟨A', c', rfl⟩ := Kd.N_slice hn2; have HNR := am (Kd.N_mono (ok' := fun _ => True) (Kd.R_N hn) (fun _ _ => trivial)); have HNT := am (Kd.N_mono (ok' := fun _ => True) hn2 (fun _ _ => trivial)); have HL := am (Kd.R_reads' hn).2.1; have HTL := am (Kd.N_reads' hn2).2.1; have BW := am hb; have BT := am (Below.refl w1.heap.size w1); clear hn hn2 hb) | ((with_reducible refine gate_dst (N := 3) rfl ?_); refine box_event (N := 3) ?hg ?hd (cs := #[(.slice none 0 0), (.slice none 0 0)]) (t := 26) ?hr ?_; (case hd => rfl); (case hg => rfl); (case hr => first | (go_simp; done) | (go_simp; rfl)); intro g3 hg w2 hbox hb; have GE := am (hg : _ = _); have X := am hbox; have HBX := am hb; have z0 : w2.cell? ⟨g3, 0, none⟩ = some (.slice none 0 0) := blk_cell hbox 0; have f0 := blk_frozen hbox 0; have z1 : w2.cell? ⟨g3, 1, none⟩ = some (.slice none 0 0) := blk_cell hbox 1; have f1 := blk_frozen hbox 1; clear hbox hb hg) | ((with_reducible refine gate_callee (f := 23) rfl ?_); refine stop_FnPlain_ ?_) | fail)
  refine ⟨?_⟩
  have hb := (below_set (j := 1) (v := (.slice A' ts.length c')) (below_set (j := 0) (v := (.slice A rs.length c)) HBX.out (Nat.le_of_eq GE.out.symm)) (Nat.le_of_eq GE.out.symm))
  have x_ := am (blk_put (cs' := #[(.slice A rs.length c), (.slice A' ts.length c')]) (blk_put (cs' := #[(.slice A rs.length c), (.slice none 0 0)]) X.out 0 (.slice A rs.length c) rfl) 1 (.slice A' ts.length c') rfl)
  clear z0 z1 f0 f1 X HBX GE
  generalize ((w2.setCell ⟨g3, 0, none⟩ (.slice A rs.length c)).setCell ⟨g3, 1, none⟩ (.slice A' ts.length c')) = w3 at x_ hb ⊢
  have t_ := am (below_step BT.out hb)
  clear BT
  have BT := t_
  clear t_
  have B3 := x_
  clear x_ hb
  have p3_0 : w3.cell? ⟨g3, 0, none⟩ = some (.slice A rs.length c) := blk_cell B3.out 0
  have p3_1 : w3.cell? ⟨g3, 1, none⟩ = some (.slice A' ts.length c') := blk_cell B3.out 1
  go_wp2_with (first | ((with_reducible refine gate_callee (f := 23) rfl ?_); refine goesL_ (some 15) rfl rfl Try.func23 (by kernel_rfl) rfl #[(.agg #[(.slice A rs.length c), (.slice A' ts.length c')])] rfl (by (try simp only [List.map_toArray, List.map_cons, List.map_nil]); first | done | rfl) ?_; (with_reducible refine (impl_ProgramPlain.calls k A c rs A' c' ts _ _ (Kd.C_below (Kd.N_reads' HNR.out).2.2 BT.out) HL.out (Kd.C_below (Kd.N_reads' HNT.out).2.2 BT.out) HTL.out HA.out).mono ?_); rintro e w4 ⟨rfl, hb⟩; refine ⟨_, rfl, ?_⟩; (try clear p3_0 p3_1); have t_ := am (below_step BT.out hb); have t3_ := am (blk_below B3.out hb); clear BT B3; have BT := t_; have B3 := t3_; clear t_ t3_ hb; have p3_0 : w4.cell? ⟨g3, 0, none⟩ = some (.slice A rs.length c) := blk_cell B3.out 0; have p3_1 : w4.cell? ⟨g3, 1, none⟩ = some (.slice A' ts.length c') := blk_cell B3.out 1) | ((with_reducible refine gate_callee (f := 24) rfl ?_); refine goesL_ (some 17) rfl rfl Try.func24 (by kernel_rfl) rfl #[(.agg #[(.slice A rs.length c), (.slice A' ts.length c')])] rfl (by (try simp only [List.map_toArray, List.map_cons, List.map_nil]); first | done | rfl) ?_; (with_reducible refine (spec_ProgramPlain.calls k A c rs A' c' ts _ _ (Kd.C_below (Kd.N_reads' HNR.out).2.2 BT.out) HL.out (Kd.C_below (Kd.N_reads' HNT.out).2.2 BT.out) HTL.out HB.out).mono ?_); rintro e w5 ⟨rfl, hb⟩; refine ⟨_, rfl, ?_⟩; (try clear p3_0 p3_1); have t_ := am (below_step BT.out hb); have t3_ := am (blk_below B3.out hb); clear BT B3; have BT := t_; have B3 := t3_; clear t_ t3_ hb; have p3_0 : w5.cell? ⟨g3, 0, none⟩ = some (.slice A rs.length c) := blk_cell B3.out 0; have p3_1 : w5.cell? ⟨g3, 1, none⟩ = some (.slice A' ts.length c') := blk_cell B3.out 1) | fail)
  obtain ⟨i0, hi0, _, hsz, _⟩ := info_parts info31
  have hcut : ∀ W : World, (Instr.slice 24 (.slice A' ts.length c') (some (.int .i64 1)) none none).run Try.prog W = .ok (.slice (if c' = 1 then A' else A'.map (·.add (1 * 1))) (ts.drop 1).length (c' - 1)) W := by
    rw [List.length_drop]
    exact cut_from (P := Try.prog) 24 31 .i64 Try.underlying24 hi0 1 hsz A' ts.length c' 1 (by omega) (by have := LM1.out; omega)
  have hdr : Kd.F (Kd.slice 37 k37) w1 (fun k => True ∧ k < w1.heap.size) (if c' = 1 then A' else A'.map (·.add (1 * 1))) (ts.drop 1).length (ts.drop 1) := Kd.F_cut (Kd.N_F (Kd.N_bound HNT.out)) (by have := LM1.out; omega) HTL.out
  generalize (if c' = 1 then A' else A'.map (·.add (1 * 1))) = A1 at hcut hdr
  generalize c' - 1 = c1 at hcut
  obtain ⟨td, htd⟩ : ∃ td, td = ts.drop 1 := ⟨_, rfl⟩
  rw [← htd] at hcut hdr
  have HTD := am htd
  have HCUT := am hcut
  have HDR := am hdr
  have LTD : Aside0 (td.length < 1000) := ⟨by rw [htd, List.length_drop]; have := LM.out; omega⟩
  clear hcut hdr htd hi0 hsz
  go_wp2
  go_loopg [6, 7] ts.length (fun kq v6 v7 w' => ∃ j : Nat, j + kq = ts.length ∧ v6 = .int .i64 0 ∧ v7 = .int .i64 (j : Int) ∧ Aside0 (Below w1.heap.size w1 w') ∧ Aside0 (w'.heap[g3]? = some (.cells #[(.slice A rs.length c), (.slice A' ts.length c')] 26 (0, 0))))
  case atStart => exact ⟨0, by omega, rfl, rfl, BT, B3⟩
  case round =>
    clear BT B3
    (try clear p3_0 p3_1)
    obtain ⟨j, hj, rfl, rfl, BT, B3⟩ := hrel
    have p3_0 : World.cell? _ ⟨g3, 0, none⟩ = some (.slice A rs.length c) := blk_cell B3.out 0
    have p3_1 : World.cell? _ ⟨g3, 1, none⟩ = some (.slice A' ts.length c') := blk_cell B3.out 1
    cases gk with
    | succ k2 =>
      have hlt : j < ts.length := by omega
      have HCT := Kd.C_below (Kd.N_reads' HNT.out).2.2 BT.out
      obtain ⟨ad, A4, c4, ea, hx4, hl4, hi4⟩ := at_L4 HCT (j : Int) (by omega) (by omega)
      subst ea
      have hrd : rd_L4 ts (j : Int) = ts[j] := by
        unfold rd_L4
        rw [Int.toNat_natCast, List.getD_eq_getElem?_getD, List.getElem?_eq_getElem hlt]
        rfl
      have hk4 := HS.out j hlt
      rw [hrd] at hx4 hl4 hi4
      rw [Int.toNat_natCast] at hx4
      generalize ts[j] = tj at hx4 hl4 hi4 hk4
      have HL4 := am hl4
      have HI4 := am hi4
      have HK4 := am hk4
      clear hl4 hi4 hk4 hrd HCT
      have HLT := am hlt
      have HJ := am hj
      have t1_ : decide ((j : Int) < (ts.length : Int)) = true := decide_eq_true (by omega)
      have t2_ : decide (j < ts.length) = true := decide_eq_true hlt
      have t3_ : (j < ts.length) = True := eq_true hlt
      have t4_ : 0 ≤ (j : Int) := by omega
      clear hlt hj
      go_wp2_with (first | ((with_reducible refine gate_callee (f := 25) rfl ?_); refine goesL_ (some 41) rfl rfl Try.func25 (by kernel_rfl) rfl #[.slice A4 tj.length c4, .int .i64 3] rfl (by (try simp only [List.map_toArray, List.map_cons, List.map_nil]); first | done | rfl) ?_; (with_reducible refine (laws_countKind.calls k A4 c4 tj 3 0 _ HI4.out HL4.out HK4.out).mono ?_); rintro e w6 ⟨rfl, hb⟩; refine ⟨_, rfl, ?_⟩; have t_ := am (below_step BT.out hb); have u_ := am (blk_below B3.out hb); clear BT B3 hb; (try clear p3_0 p3_1); have BT := t_; have B3 := u_; clear t_ u_) | fail)
      clear t1_ t2_ t3_ t4_
      go_roundg k2
      case measure => omega
      case rel => exact ⟨j + 1, by have := HJ.out; omega, rfl, by (have e_ : wrap64 ((j : Int) + 1) = ((j + 1 : Nat) : Int) := by (have := HLT.out; have := LM.out; unfold wrap64; omega)); first | rw [← e_] | (simp only [i64_w]; rw [← e_]) | (congr 1; omega), BT, B3⟩
    | zero =>
      have hje : j = ts.length := by omega
      subst hje
      clear hj
      have t1_ : decide ((ts.length : Int) < (ts.length : Int)) = false := decide_eq_false (by omega)
      have t2_ : decide (ts.length < ts.length) = false := decide_eq_false (by omega)
      go_upto_region 13 with fail
      obtain ⟨zs, hzs⟩ : ∃ zs, zs = [[(⟨3, 0, 0, ⟨0, 1, []⟩, [], []⟩ : S37)]] ++ td := ⟨_, rfl⟩
      have HZS := am hzs
      have HY2 := HY.out
      have HZ2 := HZ.out
      rw [← HTD.out, ← hzs] at HY2 HZ2
      clear HY HZ hzs
      have HY := am HY2
      have HZ := am HZ2
      clear HY2 HZ2 t1_ t2_
      refine wp_region_any (by kernel_rfl) ?_
      have b_ := am (below_drew1 BT.out)
      have x3_ := am (blk_drew B3.out)
      show wpAny _ _ _ _ _ _ _ wr.drew
      (try clear p3_0 p3_1)
      clear B3 BT
      generalize wr.drew = W0 at x3_ b_  ⊢
      have B3 := x3_
      have BT := b_
      clear b_ x3_
      have HDR0 := am (Kd.F_mono (ok' := fun k => True ∧ k < W0.heap.size) (Kd.F_below HDR.out BT.out) (fun q hq => ⟨trivial, Nat.lt_of_lt_of_le hq.2 BT.out.size⟩))
      refine any_inv (n := 13) (T := (true, [([], []), ([0], [0]), ([], []), ([2], [2]), ([3], [3]), ([4], [4]), ([], []), ([6], [6]), ([7], [7]), ([5, 8, 2], [5, 8]), ([1, 9], [1, 9]), ([], []), ([11, 10, 9, 0, 1, 2, 3, 4, 5, 6, 7, 8, 9, 10, 11], [10, 11])])) rfl (by kernel_rfl) (by decide) (fun b a W => LP13 W0 g3 A0 c0 l0 A c rs A' c' ts A1 c1 td zs u33 u34 u35 u36 u37 u38 u39 u40 u41 u42 (b 0) (b 1) (b 2) (b 3) (b 4) (b 5) (b 6) (b 7) (b 8) (b 9) (b 10) (b 11) (b 12) a W) ?hstep ?hdone _ _ ?hstart
      case hstart => exact ⟨none, 0, none, 0, none, 0, none, 0, 0, rfl, ⟨Below.refl _ _, (fun e => Bool.noConfusion e), (fun e => Bool.noConfusion e), (fun e => Bool.noConfusion e), (fun e => Bool.noConfusion e)⟩⟩
      case hstep =>
        intro i b a W hi hbi hneed hcl hI
        have hcase : i = 0 ∨ i = 1 ∨ i = 2 ∨ i = 3 ∨ i = 4 ∨ i = 5 ∨ i = 6 ∨ i = 7 ∨ i = 8 ∨ i = 9 ∨ i = 10 ∨ i = 11 ∨ i = 12 := by omega
        rcases hcase with rfl | rfl | rfl | rfl | rfl | rfl | rfl | rfl | rfl | rfl | rfl | rfl | rfl
        ·
          have z1 := zz_ (fun h => hcl 1 _ h rfl 0 (by decide)) hbi
          have z10 := zz_ (fun h => hcl 10 _ h rfl 1 (by decide)) z1
          have z12 := zz_ (fun h => hcl 12 _ h rfl 0 (by decide)) hbi
          simp only [hbi, z1, z10, z12] at hI
          obtain ⟨A45, c45, A47, c47, A48, c48, A52, c52, g8, rfl, h⟩ := hI
          refine wpOp_step rfl (fun K' hK' => ?_)
          simp (decide := true) only [if_true, if_false, reduceIte, z1, z10, z12] at hK'
          refine event_step (W := W) (w1 := W) (v := ?_) (by rfl) ?_ ?_
          rotate_left
          · (try simp only [aP13, cond_true, cond_false])
            go_simp
            first | with_reducible rfl | rfl
          refine hK' _ _ (⟨A45, c45, A47, c47, A48, c48, A52, c52, g8, ?_, h⟩)
          show Act.put _ (some 43) _ = _
          simp only [aP13, Act.put, List.setIfInBounds_toArray, List.set_cons_zero, List.set_cons_succ, i64_w, i32_w]
          rfl
        ·
          have hn_ := hneed _ rfl
          have n0 := hn_ 0 (by decide)
          have z10 := zz_ (fun h => hcl 10 _ h rfl 1 (by decide)) hbi
          have z12 := zz_ (fun h => hcl 12 _ h rfl 1 (by decide)) hbi
          simp only [hbi, n0, z10, z12] at hI
          obtain ⟨A45, c45, A47, c47, A48, c48, A52, c52, g8, rfl, h⟩ := hI
          refine wpOp_step rfl (fun K' hK' => ?_)
          simp (decide := true) only [if_true, if_false, reduceIte, n0, z10, z12] at hK'
          have hx3 := blk_below B3.out h.hB
          have q0 : W.cell? ⟨g3, 0, none⟩ = some (.slice A rs.length c) := blk_cell hx3 0
          refine event_step (W := W) (w1 := W) (v := ?_) (by rfl) ?_ ?_
          rotate_left
          · (try simp only [aP13, cond_true, cond_false])
            go_simp
            first | with_reducible rfl | rfl
          refine hK' _ _ (⟨A45, c45, A47, c47, A48, c48, A52, c52, g8, ?_, h⟩)
          show Act.put _ (some 44) _ = _
          simp only [aP13, Act.put, List.setIfInBounds_toArray, List.set_cons_zero, List.set_cons_succ, i64_w, i32_w]
          rfl
        ·
          have z3 := zz_ (fun h => hcl 3 _ h rfl 2 (by decide)) hbi
          have z4 := zz_ (fun h => hcl 4 _ h rfl 3 (by decide)) z3
          have z5 := zz_ (fun h => hcl 5 _ h rfl 4 (by decide)) z4
          have z9 := zz_ (fun h => hcl 9 _ h rfl 2 (by decide)) hbi
          have z10 := zz_ (fun h => hcl 10 _ h rfl 9 (by decide)) z9
          have z12 := zz_ (fun h => hcl 12 _ h rfl 2 (by decide)) hbi
          simp only [hbi, z3, z4, z5, z9, z10, z12] at hI
          obtain ⟨A45, c45, A47, c47, A48, c48, A52, c52, g8, rfl, h⟩ := hI
          refine wpOp_step rfl (fun K' hK' => ?_)
          simp (decide := true) only [if_true, if_false, reduceIte, z3, z4, z5, z9, z10, z12] at hK'
          refine goes_ Try.func16 (by kernel_rfl) rfl #[(.int .i64 1)] (by rfl) rfl rfl (by (try simp only [List.map_toArray, List.map_cons, List.map_nil]); first | done | rfl) ?_
          refine (numlit_FnPlain_ 1 W).mono ?_
          rintro e W' ⟨A1_, c1_, rfl, hb⟩
          refine ⟨_, rfl, hK' _ _ (⟨A1_, c1_, A47, c47, A48, c48, A52, c52, g8, ?_, ⟨below_step h.hB hb, fun e f => Kd.N_below (h.h47 e f) hb, fun e f => Kd.N_below (h.h48 e f) hb, fun e f => Kd.N_below (h.h52 e f) hb, fun e => ⟨(h.hx e).1, blk_below (h.hx e).2 hb⟩⟩⟩)⟩
          show Act.put _ (some 45) _ = _
          simp only [aP13, Act.put, List.setIfInBounds_toArray, List.set_cons_zero, List.set_cons_succ]
          rfl
        ·
          have hn_ := hneed _ rfl
          have n2 := hn_ 2 (by decide)
          have z4 := zz_ (fun h => hcl 4 _ h rfl 3 (by decide)) hbi
          have z5 := zz_ (fun h => hcl 5 _ h rfl 4 (by decide)) z4
          have z9 := zz_ (fun h => hcl 9 _ h rfl 5 (by decide)) z5
          have z10 := zz_ (fun h => hcl 10 _ h rfl 9 (by decide)) z9
          have z12 := zz_ (fun h => hcl 12 _ h rfl 3 (by decide)) hbi
          simp only [hbi, n2, z4, z5, z9, z10, z12] at hI
          obtain ⟨A45, c45, A47, c47, A48, c48, A52, c52, g8, rfl, h⟩ := hI
          refine wpOp_step rfl (fun K' hK' => ?_)
          simp (decide := true) only [if_true, if_false, reduceIte, n2, z4, z5, z9, z10, z12] at hK'
          refine event_step (W := W) (w1 := W) (v := (.agg #[(.int .i64 3), (.int .i64 0), (.int .i64 0), (.int .i64 0), (.int .i64 1), (.slice A45 0 c45), (.slice none 0 0), (.slice none 0 0)])) (by rfl) ?_ ?_
          · (try simp only [aP13, cond_true, cond_false])
            go_simp
            (try rfl)
          refine hK' _ _ (⟨A45, c45, A47, c47, A48, c48, A52, c52, g8, ?_, h⟩)
          show Act.put _ (some 46) _ = _
          simp only [aP13, Act.put, List.setIfInBounds_toArray, List.set_cons_zero, List.set_cons_succ, i64_w, i32_w]
          rfl
        ·
          have hn_ := hneed _ rfl
          have n3 := hn_ 3 (by decide)
          have n2 := hcl 3 _ n3 rfl 2 (by decide)
          have z5 := zz_ (fun h => hcl 5 _ h rfl 4 (by decide)) hbi
          have z9 := zz_ (fun h => hcl 9 _ h rfl 5 (by decide)) z5
          have z10 := zz_ (fun h => hcl 10 _ h rfl 9 (by decide)) z9
          have z12 := zz_ (fun h => hcl 12 _ h rfl 4 (by decide)) hbi
          simp only [hbi, n2, n3, z5, z9, z10, z12] at hI
          obtain ⟨A45, c45, A47, c47, A48, c48, A52, c52, g8, rfl, h⟩ := hI
          refine wpOp_step rfl (fun K' hK' => ?_)
          simp (decide := true) only [if_true, if_false, reduceIte, n2, n3, z5, z9, z10, z12] at hK'
          refine Kd.N_lit_step k37 W.heap.size 37 ?hg (N' := 47) ?hd (w0 := W) (xs := [(⟨3, 0, 0, ⟨0, 1, []⟩, [], []⟩ : S37)]) (inner := [(.int .i64 3), (.int .i64 0), (.int .i64 0), (.int .i64 0), (.int .i64 1), (.slice A45 0 c45), (.slice none 0 0), (.slice none 0 0)]) (ok := (fun q => ((b 11) = true → q ≠ g8) ∧ W0.heap.size ≤ W0.heap.size)) (okp := (fun _ => False)) ?hr ?hp ?ho ?hf (Below.refl _ _) (Nat.le_refl _) (by simp) ?_
          case hd => rfl
          case hg => rfl
          case hr => (try simp only [aP13, cond_true, cond_false]); first | (go_simp; done) | (go_simp; rfl)
          case hp => exact Reps.c8 (show Kd.FK k37 _ _ (⟨3, 0, 0, ⟨0, 1, []⟩, [], []⟩ : S37) [(.int .i64 3), (.int .i64 0), (.int .i64 0), (.int .i64 0), (.int .i64 1), (.slice A45 0 c45), (.slice none 0 0), (.slice none 0 0)] from k37_mkF _ _ (⟨3, 0, 0, ⟨0, 1, []⟩, [], []⟩ : S37) (Nat.zero_le _) (empty_F k34 _ _ A45) (Nat.le_refl _) (Kd.F_nil _ _ _) (Nat.le_refl _) (Kd.F_nil _ _ _)) (Reps.none _ _)
          case ho => exact fun q hq => hq.elim
          case hf => exact ⟨(fun e => by have := blk_lt (h.hx e).2; omega), Nat.le_refl _⟩
          intro v1 W' hn hb hg hat
          obtain ⟨A1_, c1_, rfl⟩ := Kd.N_slice hn
          have hlt := h.hB.size
          have hb' : Below W.heap.size W W' := hb
          replace hat : ∃ b, (.slice A1_ 1 c1_ : Value).ownBlock = some b ∧ W.heap.size ≤ b := hat
          refine hK' _ _ (⟨A45, c45, A1_, c1_, A48, c48, A52, c52, g8, ?_, ⟨below_step h.hB hb', (fun _ _ => Kd.N_lower hn hlt), (fun e => Bool.noConfusion e), (fun e => Bool.noConfusion e), (fun e => ⟨(h.hx e).1, blk_below (h.hx e).2 hb'⟩)⟩⟩)
          show Act.put _ (some 47) _ = _
          simp only [aP13, Act.put, List.setIfInBounds_toArray, List.set_cons_zero, List.set_cons_succ]
          rfl
        ·
          have hn_ := hneed _ rfl
          have n4 := hn_ 4 (by decide)
          have n3 := hcl 4 _ n4 rfl 3 (by decide)
          have n2 := hcl 3 _ n3 rfl 2 (by decide)
          have z9 := zz_ (fun h => hcl 9 _ h rfl 5 (by decide)) hbi
          have z10 := zz_ (fun h => hcl 10 _ h rfl 9 (by decide)) z9
          have z12 := zz_ (fun h => hcl 12 _ h rfl 5 (by decide)) hbi
          simp only [hbi, n2, n3, n4, z9, z10, z12] at hI
          obtain ⟨A45, c45, A47, c47, A48, c48, A52, c52, g8, rfl, h⟩ := hI
          refine wpOp_step rfl (fun K' hK' => ?_)
          simp (decide := true) only [if_true, if_false, reduceIte, n2, n3, n4, z9, z10, z12] at hK'
          refine Kd.N_lit_step (Kd.slice 37 k37) W.heap.size 31 ?hg (N' := 48) ?hd (w0 := W) (xs := [[(⟨3, 0, 0, ⟨0, 1, []⟩, [], []⟩ : S37)]]) (inner := [(.slice A47 1 c47)]) (ok := (fun q => ((b 11) = true → q ≠ g8) ∧ W0.heap.size ≤ W0.heap.size)) (okp := (fun q => ((b 11) = true → q ≠ g8) ∧ W0.heap.size ≤ W0.heap.size)) ?hr ?hp ?ho ?hf (Below.refl _ _) (Nat.le_refl _) (by simp) ?_
          case hd => rfl
          case hg => rfl
          case hr => (try simp only [aP13, cond_true, cond_false]); first | (go_simp; done) | (go_simp; rfl)
          case hp => exact Reps.one (show Kd.FK (Kd.slice 37 k37) _ _ [(⟨3, 0, 0, ⟨0, 1, []⟩, [], []⟩ : S37)] [.slice A47 1 c47] from Kd.FK_slice_mk (Kd.N_reads' (h.h47 rfl rfl)).2.1 (Kd.N_F (h.h47 rfl rfl))) (Reps.none _ _)
          case ho => exact fun q hq => ⟨hq.1, Nat.le_refl _⟩
          case hf => exact ⟨(fun e => by have := blk_lt (h.hx e).2; omega), Nat.le_refl _⟩
          intro v1 W' hn hb hg hat
          obtain ⟨A1_, c1_, rfl⟩ := Kd.N_slice hn
          have hlt := h.hB.size
          have hb' : Below W.heap.size W W' := hb
          replace hat : ∃ b, (.slice A1_ 1 c1_ : Value).ownBlock = some b ∧ W.heap.size ≤ b := hat
          refine hK' _ _ (⟨A45, c45, A47, c47, A1_, c1_, A52, c52, g8, ?_, ⟨below_step h.hB hb', (fun _ e => Bool.noConfusion e), (fun _ _ => Kd.N_lower hn hlt), (fun e => Bool.noConfusion e), (fun e => ⟨(h.hx e).1, blk_below (h.hx e).2 hb'⟩)⟩⟩)
          show Act.put _ (some 48) _ = _
          simp only [aP13, Act.put, List.setIfInBounds_toArray, List.set_cons_zero, List.set_cons_succ]
          rfl
        ·
          have z7 := zz_ (fun h => hcl 7 _ h rfl 6 (by decide)) hbi
          have z8 := zz_ (fun h => hcl 8 _ h rfl 7 (by decide)) z7
          have z9 := zz_ (fun h => hcl 9 _ h rfl 8 (by decide)) z8
          have z10 := zz_ (fun h => hcl 10 _ h rfl 9 (by decide)) z9
          have z12 := zz_ (fun h => hcl 12 _ h rfl 6 (by decide)) hbi
          simp only [hbi, z7, z8, z9, z10, z12] at hI
          obtain ⟨A45, c45, A47, c47, A48, c48, A52, c52, g8, rfl, h⟩ := hI
          refine wpOp_step rfl (fun K' hK' => ?_)
          simp (decide := true) only [if_true, if_false, reduceIte, z7, z8, z9, z10, z12] at hK'
          refine event_step (W := W) (w1 := W) (v := ?_) (by rfl) ?_ ?_
          rotate_left
          · (try simp only [aP13, cond_true, cond_false])
            go_simp
            first | with_reducible rfl | rfl
          refine hK' _ _ (⟨A45, c45, A47, c47, A48, c48, A52, c52, g8, ?_, h⟩)
          show Act.put _ (some 49) _ = _
          simp only [aP13, Act.put, List.setIfInBounds_toArray, List.set_cons_zero, List.set_cons_succ, i64_w, i32_w]
          rfl
        ·
          have hn_ := hneed _ rfl
          have n6 := hn_ 6 (by decide)
          have z8 := zz_ (fun h => hcl 8 _ h rfl 7 (by decide)) hbi
          have z9 := zz_ (fun h => hcl 9 _ h rfl 8 (by decide)) z8
          have z10 := zz_ (fun h => hcl 10 _ h rfl 9 (by decide)) z9
          have z12 := zz_ (fun h => hcl 12 _ h rfl 7 (by decide)) hbi
          simp only [hbi, n6, z8, z9, z10, z12] at hI
          obtain ⟨A45, c45, A47, c47, A48, c48, A52, c52, g8, rfl, h⟩ := hI
          refine wpOp_step rfl (fun K' hK' => ?_)
          simp (decide := true) only [if_true, if_false, reduceIte, n6, z8, z9, z10, z12] at hK'
          have hx3 := blk_below B3.out h.hB
          have q1 : W.cell? ⟨g3, 1, none⟩ = some (.slice A' ts.length c') := blk_cell hx3 1
          refine event_step (W := W) (w1 := W) (v := ?_) (by rfl) ?_ ?_
          rotate_left
          · (try simp only [aP13, cond_true, cond_false])
            go_simp
            first | with_reducible rfl | rfl
          refine hK' _ _ (⟨A45, c45, A47, c47, A48, c48, A52, c52, g8, ?_, h⟩)
          show Act.put _ (some 50) _ = _
          simp only [aP13, Act.put, List.setIfInBounds_toArray, List.set_cons_zero, List.set_cons_succ, i64_w, i32_w]
          rfl
        ·
          have hn_ := hneed _ rfl
          have n7 := hn_ 7 (by decide)
          have n6 := hcl 7 _ n7 rfl 6 (by decide)
          have z9 := zz_ (fun h => hcl 9 _ h rfl 8 (by decide)) hbi
          have z10 := zz_ (fun h => hcl 10 _ h rfl 9 (by decide)) z9
          have z12 := zz_ (fun h => hcl 12 _ h rfl 8 (by decide)) hbi
          simp only [hbi, n6, n7, z9, z10, z12] at hI
          obtain ⟨A45, c45, A47, c47, A48, c48, A52, c52, g8, rfl, h⟩ := hI
          refine wpOp_step rfl (fun K' hK' => ?_)
          simp (decide := true) only [if_true, if_false, reduceIte, n6, n7, z9, z10, z12] at hK'
          have hcut := HCUT.out W
          refine event_step (W := W) (w1 := W) (v := (.slice A1 td.length c1)) (by rfl) ?_ ?_
          · (try simp only [aP13, cond_true, cond_false])
            first | exact hcut | (go_simp; done) | (go_simp; exact hcut) | (simp only [hcut]; rfl)
          refine hK' _ _ (⟨A45, c45, A47, c47, A48, c48, A52, c52, g8, ?_, h⟩)
          show Act.put _ (some 51) _ = _
          simp only [aP13, Act.put, List.setIfInBounds_toArray, List.set_cons_zero, List.set_cons_succ]
          rfl
        ·
          have hn_ := hneed _ rfl
          have n2 := hn_ 2 (by decide)
          have n5 := hn_ 5 (by decide)
          have n8 := hn_ 8 (by decide)
          have n4 := hcl 5 _ n5 rfl 4 (by decide)
          have n7 := hcl 8 _ n8 rfl 7 (by decide)
          have n3 := hcl 4 _ n4 rfl 3 (by decide)
          have n6 := hcl 7 _ n7 rfl 6 (by decide)
          have z10 := zz_ (fun h => hcl 10 _ h rfl 9 (by decide)) hbi
          have z12 := zz_ (fun h => hcl 12 _ h rfl 9 (by decide)) hbi
          simp only [hbi, n2, n3, n4, n5, n6, n7, n8, z10, z12] at hI
          obtain ⟨A45, c45, A47, c47, A48, c48, A52, c52, g8, rfl, h⟩ := hI
          refine wpOp_step rfl (fun K' hK' => ?_)
          simp (decide := true) only [if_true, if_false, reduceIte, n2, n3, n4, n5, n6, n7, n8, z10, z12] at hK'
          have hlt := h.hB.size
          have hnX := h.h48 rfl rfl
          have ownX : ∀ q, ((.slice A48 1 c48) : Value).ownBlock = some q → W0.heap.size ≤ q := Kd.N_base hnX
          have hrow := Kd.F_below HDR0.out h.hB
          refine Kd.N_append_rows_step (Kd.slice 37 k37) (w0 := W0) W0.heap.size (by rfl) (.tmp 48) (.tmp 51) 24 31 (.slice none 0 0) 24 rfl Try.underlying24 info31 rfl (by decide) (by omega) (.slice A48 1 c48) [[(⟨3, 0, 0, ⟨0, 1, []⟩, [], []⟩ : S37)]] td A1 td.length c1 (fun q => ((b 11) = true → q ≠ g8) ∧ W0.heap.size ≤ W0.heap.size) _ rfl rfl (Kd.N_mono hnX ?aO) hrow ?aK ?aF h.hB hlt ?aL ?_
          case aO => exact fun q hq => ⟨hq.1, Nat.le_refl _⟩
          case aK => exact fun q hq => ⟨⟨(fun e => by have := (h.hx e).1; have := hq.2; omega), Nat.le_refl _⟩, fun e => by have := ownX q e.symm; have := hq.2; omega⟩
          case aF => exact fun q hq => ⟨(fun e => by have := blk_lt (h.hx e).2; omega), Nat.le_refl _⟩
          case aL => (have := LTD.out; show (1 + td.length) * 24 ≤ _; omega)
          intro v1 W' hn hb hg hat
          rw [← HZS.out] at hn
          obtain ⟨A1_, c1_, rfl⟩ := Kd.N_slice hn
          have hz : ∀ q, some q ≠ ((.slice A48 1 c48) : Value).ownBlock → q < W.heap.size → some q ≠ (.slice A1_ zs.length c1_ : Value).ownBlock := by
            intro q h1 h2 e3
            rcases hat with hat | ⟨b', hb', hle⟩
            · exact h1 (e3.trans hat)
            · rw [hb'] at e3
              injection e3 with e3
              omega
          refine hK' _ _ (⟨A45, c45, A47, c47, A48, c48, A1_, c1_, g8, ?_, ⟨hb, (fun _ e => Bool.noConfusion e), (fun _ e => Bool.noConfusion e), (fun _ _ => hn), (fun e => ⟨(h.hx e).1, blk_grown (h.hx e).2 hg (fun e2 => (hnX.1 _ e2.symm).1 e rfl)⟩)⟩⟩)
          show Act.put _ (some 52) _ = _
          simp only [aP13, Act.put, List.setIfInBounds_toArray, List.set_cons_zero, List.set_cons_succ]
          rfl
        ·
          have hn_ := hneed _ rfl
          have n1 := hn_ 1 (by decide)
          have n9 := hn_ 9 (by decide)
          have n0 := hcl 1 _ n1 rfl 0 (by decide)
          have n2 := hcl 9 _ n9 rfl 2 (by decide)
          have n5 := hcl 9 _ n9 rfl 5 (by decide)
          have n8 := hcl 9 _ n9 rfl 8 (by decide)
          have n4 := hcl 5 _ n5 rfl 4 (by decide)
          have n7 := hcl 8 _ n8 rfl 7 (by decide)
          have n3 := hcl 4 _ n4 rfl 3 (by decide)
          have n6 := hcl 7 _ n7 rfl 6 (by decide)
          have z12 := zz_ (fun h => hcl 12 _ h rfl 10 (by decide)) hbi
          simp only [hbi, n0, n1, n2, n3, n4, n5, n6, n7, n8, n9, z12] at hI
          obtain ⟨A45, c45, A47, c47, A48, c48, A52, c52, g8, rfl, h⟩ := hI
          refine wpOp_step rfl (fun K' hK' => ?_)
          simp (decide := true) only [if_true, if_false, reduceIte, n0, n1, n2, n3, n4, n5, n6, n7, n8, n9, z12] at hK'
          refine event_step (W := W) (w1 := W) (v := (.agg #[(.slice A rs.length c), (.slice A52 zs.length c52)])) (by rfl) ?_ ?_
          · (try simp only [aP13, cond_true, cond_false])
            go_simp
            (try rfl)
          refine hK' _ _ (⟨A45, c45, A47, c47, A48, c48, A52, c52, g8, ?_, h⟩)
          show Act.put _ (some 53) _ = _
          simp only [aP13, Act.put, List.setIfInBounds_toArray, List.set_cons_zero, List.set_cons_succ, i64_w, i32_w]
          rfl
        ·
          have z12 := zz_ (fun h => hcl 12 _ h rfl 11 (by decide)) hbi
          simp only [hbi, z12] at hI
          obtain ⟨A45, c45, A47, c47, A48, c48, A52, c52, g8, rfl, h⟩ := hI
          refine wpOp_step rfl (fun K' hK' => ?_)
          simp (decide := true) only [if_true, if_false, reduceIte, z12] at hK'
          refine box_step ?hg (N := 8) ?hd (cs := #[(.slice none 0 0), (.slice none 0 0)]) (t := 26) ?hr ?_
          case hd => rfl
          case hg => rfl
          case hr => (try simp only [aP13, cond_true, cond_false]); first | (go_simp; done) | (go_simp; rfl)
          intro gb hgb W' hbox hb
          have hlt := h.hB.size
          refine hK' _ _ (⟨A45, c45, A47, c47, A48, c48, A52, c52, gb, ?_, ⟨below_step h.hB hb, (fun e f => Kd.N_mono (Kd.N_below (Kd.N_bound (h.h47 e f)) hb) (fun q hq => ⟨(fun _ => by have := hq.2; omega), Nat.le_refl _⟩)), (fun e f => Kd.N_mono (Kd.N_below (Kd.N_bound (h.h48 e f)) hb) (fun q hq => ⟨(fun _ => by have := hq.2; omega), Nat.le_refl _⟩)), (fun e f => Kd.N_mono (Kd.N_below (Kd.N_bound (h.h52 e f)) hb) (fun q hq => ⟨(fun _ => by have := hq.2; omega), Nat.le_refl _⟩)), (fun _ => ⟨by omega, hbox⟩)⟩⟩)
          show Act.put _ (some 8) _ = _
          simp only [aP13, Act.put, List.setIfInBounds_toArray, List.set_cons_zero, List.set_cons_succ]
          rfl
        ·
          have hn_ := hneed _ rfl
          have n0 := hn_ 0 (by decide)
          have n1 := hn_ 1 (by decide)
          have n2 := hn_ 2 (by decide)
          have n3 := hn_ 3 (by decide)
          have n4 := hn_ 4 (by decide)
          have n5 := hn_ 5 (by decide)
          have n6 := hn_ 6 (by decide)
          have n7 := hn_ 7 (by decide)
          have n8 := hn_ 8 (by decide)
          have n9 := hn_ 9 (by decide)
          have n10 := hn_ 10 (by decide)
          have n11 := hn_ 11 (by decide)
          simp only [hbi, n0, n1, n2, n3, n4, n5, n6, n7, n8, n9, n10, n11] at hI
          obtain ⟨A45, c45, A47, c47, A48, c48, A52, c52, g8, rfl, h⟩ := hI
          refine wpOp_step rfl (fun K' hK' => ?_)
          simp (decide := true) only [if_true, if_false, reduceIte, n0, n1, n2, n3, n4, n5, n6, n7, n8, n9, n10, n11] at hK'
          obtain ⟨hg6, hbx⟩ := h.hx rfl
          replace hbx : W.heap[g8]? = some (.cells #[(.slice none 0 0), (.slice none 0 0)] 26 (0, 0)) := hbx
          have q0 : W.cell? ⟨g8, 0, none⟩ = some (.slice none 0 0) := blk_cell hbx 0
          have f0 := blk_frozen hbx 0
          have q1 : W.cell? ⟨g8, 1, none⟩ = some (.slice none 0 0) := blk_cell hbx 1
          have f1 := blk_frozen hbx 1
          refine skip_ (w1 := ((W.setCell ⟨g8, 0, none⟩ (.slice A rs.length c)).setCell ⟨g8, 1, none⟩ (.slice A52 zs.length c52))) (by rfl) rfl ?_ ?_
          · (try simp only [aP13, cond_true, cond_false])
            go_simp
            (try rfl)
          refine hK' _ _ (⟨A45, c45, A47, c47, A48, c48, A52, c52, g8, rfl, ⟨(below_set (j := 1) (v := (.slice A52 zs.length c52)) (below_set (j := 0) (v := (.slice A rs.length c)) h.hB hg6) hg6), (fun _ e => Bool.noConfusion e), (fun _ e => Bool.noConfusion e), (fun e f => Kd.N_mono (Kd.N_far (p := ⟨g8, 1, none⟩) (Kd.N_far (p := ⟨g8, 0, none⟩) (Kd.N_bound (h.h52 e f)) (fun q hq => hq.1.1 rfl) (.slice A rs.length c)) (fun q hq => hq.1.1 rfl) (.slice A52 zs.length c52)) (fun q hq => ⟨hq.1.1, Nat.le_refl _⟩)), (fun _ => ⟨hg6, (blk_put (cs' := #[(.slice A rs.length c), (.slice A52 zs.length c52)]) (blk_put (cs' := #[(.slice A rs.length c), (.slice none 0 0)]) hbx 0 (.slice A rs.length c) rfl) 1 (.slice A52 zs.length c52) rfl)⟩)⟩⟩)
      case hdone =>
        intro b a W1 hall hI
        replace hI : LP13 W0 g3 A0 c0 l0 A c rs A' c' ts A1 c1 td zs u33 u34 u35 u36 u37 u38 u39 u40 u41 u42 (b 0) (b 1) (b 2) (b 3) (b 4) (b 5) (b 6) (b 7) (b 8) (b 9) (b 10) (b 11) (b 12) a W1 := hI
        rw [hall 0 (by decide), hall 1 (by decide), hall 2 (by decide), hall 3 (by decide), hall 4 (by decide), hall 5 (by decide), hall 6 (by decide), hall 7 (by decide), hall 8 (by decide), hall 9 (by decide), hall 10 (by decide), hall 11 (by decide), hall 12 (by decide)] at hI
        obtain ⟨A45, c45, A47, c47, A48, c48, A52, c52, g8, rfl, h⟩ := hI
        simp only [aP13, cond_true]
        have hn := h.h52 rfl trivial
        have HZC := am (Kd.N_reads' hn).2.2
        have HZL := am (Kd.N_reads' hn).2.1
        have B8 := am (show W1.heap[g8]? = some (.cells #[(.slice A rs.length c), (.slice A52 zs.length c52)] 26 (0, 0)) from (h.hx rfl).2)
        have hb := h.hB
        clear h hall hn HDR0
        have t_ := am (below_step BT.out hb)
        have t3_ := am (blk_below B3.out hb)
        clear BT B3
        have BT := t_
        have B3 := t3_
        clear t_ t3_
        clear hb
        have p3_0 : W1.cell? ⟨g3, 0, none⟩ = some (.slice A rs.length c) := blk_cell B3.out 0
        have p3_1 : W1.cell? ⟨g3, 1, none⟩ = some (.slice A' ts.length c') := blk_cell B3.out 1
        have p8_0 : W1.cell? ⟨g8, 0, none⟩ = some (.slice A rs.length c) := blk_cell B8.out 0
        have p8_1 : W1.cell? ⟨g8, 1, none⟩ = some (.slice A52 zs.length c52) := blk_cell B8.out 1
        go_wp2_with (first | ((with_reducible refine (impl_ProgramValid.calls k A c rs A' c' ts true _ (Kd.C_below (Kd.N_reads' HNR.out).2.2 BT.out) HL.out (Kd.C_below (Kd.N_reads' HNT.out).2.2 BT.out) HTL.out HX.out).mono ?_); rintro e ya ⟨rfl, hb⟩; (try clear p3_0 p3_1 p8_0 p8_1); have t_ := am (below_step BT.out hb); have t3_ := am (blk_below B3.out hb); have t8_ := am (blk_below B8.out hb); clear BT B3 B8; have BT := t_; have B3 := t3_; have B8 := t8_; clear t_ t3_ t8_; have tz_ := am (Kd.C_below HZC.out hb); clear HZC hb; have HZC := tz_; clear tz_; have p3_0 : ya.cell? ⟨g3, 0, none⟩ = some (.slice A rs.length c) := blk_cell B3.out 0; have p3_1 : ya.cell? ⟨g3, 1, none⟩ = some (.slice A' ts.length c') := blk_cell B3.out 1; have p8_0 : ya.cell? ⟨g8, 0, none⟩ = some (.slice A rs.length c) := blk_cell B8.out 0; have p8_1 : ya.cell? ⟨g8, 1, none⟩ = some (.slice A52 zs.length c52) := blk_cell B8.out 1; (try dsimp only)) | ((with_reducible refine (impl_ProgramValid.calls k A c rs A52 c52 zs true _ (Kd.C_below (Kd.N_reads' HNR.out).2.2 BT.out) HL.out HZC.out HZL.out HY.out).mono ?_); rintro e yb ⟨rfl, hb⟩; (try clear p3_0 p3_1 p8_0 p8_1); have t_ := am (below_step BT.out hb); have t3_ := am (blk_below B3.out hb); have t8_ := am (blk_below B8.out hb); clear BT B3 B8; have BT := t_; have B3 := t3_; have B8 := t8_; clear t_ t3_ t8_; have tz_ := am (Kd.C_below HZC.out hb); clear HZC hb; have HZC := tz_; clear tz_; have p3_0 : yb.cell? ⟨g3, 0, none⟩ = some (.slice A rs.length c) := blk_cell B3.out 0; have p3_1 : yb.cell? ⟨g3, 1, none⟩ = some (.slice A' ts.length c') := blk_cell B3.out 1; have p8_0 : yb.cell? ⟨g8, 0, none⟩ = some (.slice A rs.length c) := blk_cell B8.out 0; have p8_1 : yb.cell? ⟨g8, 1, none⟩ = some (.slice A52 zs.length c52) := blk_cell B8.out 1; (try dsimp only)) | ((with_reducible refine (impl_ProgramPlain.calls k A c rs A52 c52 zs z _ (Kd.C_below (Kd.N_reads' HNR.out).2.2 BT.out) HL.out HZC.out HZL.out HZ.out).mono ?_); rintro e yc ⟨rfl, hb⟩; (try clear p3_0 p3_1 p8_0 p8_1); have t_ := am (below_step BT.out hb); have t3_ := am (blk_below B3.out hb); have t8_ := am (blk_below B8.out hb); clear BT B3 B8; have BT := t_; have B3 := t3_; have B8 := t8_; clear t_ t3_ t8_; have tz_ := am (Kd.C_below HZC.out hb); clear HZC hb; have HZC := tz_; clear tz_; have p3_0 : yc.cell? ⟨g3, 0, none⟩ = some (.slice A rs.length c) := blk_cell B3.out 0; have p3_1 : yc.cell? ⟨g3, 1, none⟩ = some (.slice A' ts.length c') := blk_cell B3.out 1; have p8_0 : yc.cell? ⟨g8, 0, none⟩ = some (.slice A rs.length c) := blk_cell B8.out 0; have p8_1 : yc.cell? ⟨g8, 1, none⟩ = some (.slice A52 zs.length c52) := blk_cell B8.out 1; (try dsimp only)) | fail)
        go_ret
        exact ⟨rfl, below_step BW.out BT.out⟩
end Go.Proofs.Ytpcbfcaacilghaa.PA

namespace Go.Proofs.Ytpcbfcaacilghaa.Open
open Go.ChangeShapes Go.WideShapes Go.RowKit Go.Proofs.YtpcbfcaacilghaaW.PrintWords
section
variable {H : Type} {enc : TypeId × Value → H} {P : Program} {w : World} {base : Nat} {spare : Nat → Bool} {held : Bool}
def Opn {α : Type} (enc : TypeId × Value → H) (P : Program) (w : World) (base : Nat) (spare : Nat → Bool) (held : Bool) (F : Nat) (t : TypeId) (d : Kd α) (G : α → Prop) : Prop :=
 ∀ f, f ≤ F → ∀ cs x, DataW.trod enc P w base spare held f t cs = some x → ∃ a, d.K w a cs ∧ G a
theorem Opn.le {α : Type} {F F' : Nat} {t : TypeId} {d : Kd α} {G : α → Prop} (h : Opn enc P w base spare held F t d G) (hf : F' ≤ F) : Opn enc P w base spare held F' t d G :=
 fun f hl => h f (Nat.le_trans hl hf)
theorem Opn.int {F : Nat} {t : TypeId} {k : IntKind} (hu : P.underlying t = some (.int k)) : Opn enc P w base spare held F t (Kd.int k) (fun n => (Lit.int k n).wf = true) := by
 intro f _ cs x h
 cases f with
 | zero => simp [DataW.trod] at h
 | succ n =>
  obtain ⟨m, rfl, hw⟩ : ∃ m, cs = [.int k m] ∧ (Lit.int k m).wf = true := by
   unfold DataW.trod at h
   rw [hu] at h
   split at h <;> simp_all
  exact ⟨m, rfl, hw⟩
theorem collect {α : Type} {Q : Nat → α → Prop} : ∀ m, (∀ i, i < m → ∃ a, Q i a) → ∃ l : List α, l.length = m ∧ ∀ i p, l[i]? = some p → Q i p
 | 0, _ => ⟨[], rfl, fun i p h => by simp at h⟩
 | m + 1, h => by
  obtain ⟨l, hl, hq⟩ := collect m (fun i hi => h i (by omega))
  obtain ⟨a, ha⟩ := h m (by omega)
  refine ⟨l ++ [a], by simp [hl], fun i p hp => ?_⟩
  rcases Nat.lt_or_ge i l.length with hlt | hge
  ·rw [List.getElem?_append_left hlt] at hp
   exact hq i p hp
  ·rw [List.getElem?_append_right hge] at hp
   have hi : i - l.length = 0 := by
    rcases Nat.eq_zero_or_pos (i - l.length) with h0 | h0
    ·exact h0
    ·rw [List.getElem?_eq_none (by simp; omega)] at hp
     cases hp
   rw [hi] at hp
   simp at hp
   subst hp
   have : i = m := by omega
   subst this
   exact ha
theorem Opn.slice {α : Type} {F : Nat} {t e : TypeId} {d : Kd α} {G : α → Prop} (hu : P.underlying t = some (.slice e)) (hc : P.cellsOf e = d.sz) (h : ∀ F', F' < F → Opn enc P w base spare held F' e d G) :
  Opn enc P w base spare held F t (Kd.slice e d) (fun l => l.length ≤ maxLen ∧ ∀ x ∈ l, G x) := by
 intro f hfF cs x hx
 rcases DataW.trod_slice hu hx with ⟨rfl, _⟩ | ⟨a, len, cap, elems, rest, n, rfl, rfl, _, _, hl, hm, hlen, hel, _, _⟩
 ·exact ⟨[], ⟨none, 0, rfl, Nat.le_refl _, rfl, by simp, fun hp => absurd hp (Nat.lt_irrefl 0)⟩, by simp, fun x hx => by simp at hx⟩
 ·obtain ⟨l, hll, hq⟩ := collect (Q := fun i p => (∃ c, c.length = d.sz ∧ d.K w p c ∧ ∀ j u, c[j]? = some u → w.cell? (a.add (i * d.sz + j)) = some u) ∧ G p) len (fun i hi => by
   have h1 := hel i hi
   have h2 : elems[i]? = some (elems[i]'(by omega)) := List.getElem?_eq_getElem (by omega)
   rw [h2] at h1
   obtain ⟨c, hc1, hc2⟩ := Option.bind_eq_some_iff.1 h1
   obtain ⟨p, hp, hg⟩ := h n (by omega) n (Nat.le_refl _) c _ hc2
   obtain ⟨_, hcl, hat⟩ := World.cells?_some hc1
   refine ⟨p, ⟨c, d.K_len hp, hp, fun j u hj => ?_⟩, hg⟩
   have hjl : j < c.length := (List.getElem?_eq_some_iff.1 hj).1
   have h3 := hat j (by omega)
   rw [hj] at h3
   rw [← hc, ← Go.Deep.add_add]
   exact h3)
  have hml : maxLen = 9223372036854775807 := rfl
  refine ⟨l, ⟨some a, cap, by rw [hll], by omega, rfl, by omega, fun _ => ⟨a, rfl, fun j p hj => (hq j p hj).1⟩⟩, by omega, fun x hx => ?_⟩
  obtain ⟨i, hi, rfl⟩ := List.getElem_of_mem hx
  exact (hq i _ (List.getElem?_eq_getElem hi)).2
end
end Go.Proofs.Ytpcbfcaacilghaa.Open

namespace Go.Proofs.Ytpcbfcaacilghaa.PA
open Go.RowKit Go.Proofs.YtpcbfcaacilghaaW.PrintWords
def laws_FnPlain.Pure : Prop := ∀ (l0 : List Int), (l0.length ≤ maxLen ∧ ∀ y ∈ l0, (Lit.int .u8 y).wf = true) → ∃ k, laws_FnPlain.f k l0 = some true
end Go.Proofs.Ytpcbfcaacilghaa.PA

namespace Go.Proofs.Ytpcbfcaacilghaa.Core
open Go.RowKit Go.Proofs.YtpcbfcaacilghaaW.PrintWords Go.Proofs.YtpcbfcaacilghaaW.PrintMore
section
variable {α β : Type} {g h : Nat → Option α} {P Q : α → Prop}
def EvP (g : Nat → Option α) (P : α → Prop) : Prop := ∃ r, Ev g r ∧ P r
theorem EvP.ret {r : α} (h : P r) : EvP (fun _ => some r) P := ⟨r, Ev.now r, h⟩
theorem EvP.mono (h : EvP g P) (k : ∀ a, P a → Q a) : EvP g Q := by
 obtain ⟨r, h1, h2⟩ := h
 exact ⟨r, h1, k r h2⟩
theorem EvP.bind {f : Nat → α → Option β} {R : β → Prop} (h : EvP g P) (k : ∀ a, P a → EvP (fun n => f n a) R) : EvP (fun n => (g n).bind (f n)) R := by
 obtain ⟨a, h1, h2⟩ := h
 obtain ⟨r, k1, k2⟩ := k a h2
 exact ⟨r, Ev.bind h1 k1, k2⟩
theorem EvP.bind0 {o : Option α} {a : α} {f : Nat → α → Option β} {R : β → Prop} (h : o = some a) (k : EvP (fun n => f n a) R) : EvP (fun n => o.bind (f n)) R := by
 subst h
 exact k
theorem EvP.ite {c : Prop} [Decidable c] (h1 : c → EvP g P) (h2 : ¬ c → EvP h P) : EvP (fun n => if c then g n else h n) P := by
 by_cases hc : c
 ·simp only [if_pos hc]
  exact h1 hc
 ·simp only [if_neg hc]
  exact h2 hc
theorem EvP.yes {c : Prop} [Decidable c] (hc : c) (h1 : EvP g P) : EvP (fun n => if c then g n else h n) P := by
 simp only [if_pos hc]
 exact h1
theorem EvP.no {c : Prop} [Decidable c] (hc : ¬ c) (h1 : EvP h P) : EvP (fun n => if c then g n else h n) P := by
 simp only [if_neg hc]
 exact h1
theorem EvP.step {f : Nat → Option α} (h : ∀ k, g (k + 1) = f k) (k : EvP f P) : EvP g P := by
 obtain ⟨r, h1, h2⟩ := k
 exact ⟨r, Ev.step h h1, h2⟩
theorem EvP.ends {r : α} (h : EvP g (· = r)) : ∃ k, g k = some r := by
  obtain ⟨a, h1, h2⟩ := h
  subst h2
  exact h1.rounds
theorem EvP.congr {f : Nat → Option α} (h : ∀ k, g k = f k) (k : EvP f P) : EvP g P := by
 obtain ⟨r, h1, h2⟩ := k
 exact ⟨r, Ev.congr h h1, h2⟩
theorem EvP.bindEq {f : Nat → α → Option β} {R : β → Prop} {a : α} (h : EvP g (· = a)) (k : EvP (fun n => f n a) R) : EvP (fun n => (g n).bind (f n)) R :=
  EvP.bind h (fun b hb => by subst hb; exact k)
end
theorem w64 {n : Int} (h1 : -9223372036854775808 ≤ n) (h2 : n ≤ 9223372036854775807) : wrap64 n = n := by
 unfold wrap64
 omega
theorem rd_nat (xs : List Int) (i : Nat) (h : i < xs.length) : rd xs (i : Int) = xs[i] := by
 unfold rd
 rw [Int.toNat_natCast, List.getD_eq_getElem?_getD, List.getElem?_eq_getElem h]
 rfl
theorem rd_mem (xs : List Int) (i : Int) (h0 : 0 ≤ i) (h : i < xs.length) : rd xs i ∈ xs := by
 unfold rd
 rw [List.getD_eq_getElem?_getD, List.getElem?_eq_getElem (by omega)]
 exact List.getElem_mem _
theorem tm_range {a b : Int} (h0 : 0 ≤ a) (hb : 0 < b) : 0 ≤ Int.tmod a b ∧ Int.tmod a b < b := by
 rw [Int.tmod_eq_emod_of_nonneg h0]
 exact ⟨Int.emod_nonneg _ (by omega), Int.emod_lt_of_pos _ hb⟩
end Go.Proofs.Ytpcbfcaacilghaa.Core

namespace Go.Proofs.Ytpcbfcaacilghaa.PA
open Go.RowKit Go.Proofs.YtpcbfcaacilghaaW.PrintWords Go.Proofs.YtpcbfcaacilghaaW.PrintMore Go.Proofs.Ytpcbfcaacilghaa.Core
def ap (op a b : Int) : Int :=
 if op = 1 then Go.bits .or .i64 a b else if op = 2 then Go.bits .xor .i64 a b else if op = 3 then Go.bits .and .i64 a b
 else if op = 4 then (if a = b then 1 else 0) else if op = 5 then (if a < b then 1 else 0)
 else if op = 6 then wrap32 (shl .i64 a (Go.bits .and .i64 b 31)) else if op = 7 then shr .i64 a (Go.bits .and .i64 b 31)
 else if op = 8 then wrap32 (a + b) else if op = 9 then wrap32 (a - b) else if op = 10 then wrap32 (a * b)
 else if op = 11 then (if b = 0 then -1 else wrap32 (Int.tdiv a b)) else if b = 0 then a else Int.tmod a b
end Go.Proofs.Ytpcbfcaacilghaa.PA

namespace Go.Proofs.Ytpcbfcaacilghaa.PA
open Go.RowKit Go.Proofs.YtpcbfcaacilghaaW.PrintWords Go.Proofs.Ytpcbfcaacilghaa.Core
theorem l6In_eq (a b c : Int) : spec_l6In.f a b c = some (decide (b ≤ a) && decide (a ≤ c)) := by
 unfold spec_l6In.f
 by_cases h : a ≥ b
 ·rw [if_pos h, decide_eq_true h, Bool.true_and]
 ·rw [if_neg h, decide_eq_false h, Bool.false_and]
end Go.Proofs.Ytpcbfcaacilghaa.PA

namespace Go.Proofs.Ytpcbfcaacilghaa.PA
open Go.RowKit Go.Proofs.Ytpcbfcaacilghaa.Core
inductive X where
 | num (n : Int)
 | var (v : Int)
 | bin (op : Int) (a b : X)
namespace X
def ok : X → Prop
 | num n => 0 ≤ n ∧ n ≤ 99999
 | var v => 0 ≤ v ∧ v < 4
 | bin op a b => (1 ≤ op ∧ op ≤ 12) ∧ a.ok ∧ b.ok
def size : X → Nat
 | num _ => 1
 | var _ => 1
 | bin _ a b => a.size + b.size + 1
def eval (g : Int → Int) : X → Int
 | num n => n
 | var v => g v
 | bin op a b => ap op (a.eval g) (b.eval g)
end X
end Go.Proofs.Ytpcbfcaacilghaa.PA

namespace Go.Proofs.Ytpcbfcaacilghaa.PA
open Go.RowKit Go.Proofs.YtpcbfcaacilghaaW.PrintWords Go.Proofs.YtpcbfcaacilghaaW.PrintMore Go.Proofs.Ytpcbfcaacilghaa.Core
theorem rdE_0 (a b : S34) : rd_T34 [a, b] 0 = a := rfl
theorem rdE_1 (a b : S34) : rd_T34 [a, b] 1 = b := rfl
def vx : Nat → Int → Int → List S34 → Bool
 | 0, _, _, _ => false
 | d + 1, op, n, l =>
  if op = 0 then decide (0 ≤ n) && (decide (n ≤ 99999) && decide (l.length = 0))
  else if op = 13 then decide (0 ≤ n) && (decide (n < 4) && decide (l.length = 0))
  else decide (1 ≤ op) && (decide (op ≤ 12) && (decide (n = 0) && (match l with
   | [a, b] => vx d a.f0 a.f1 a.f2 && vx d b.f0 b.f1 b.f2
   | _ => false)))
theorem two_of {α : Type} {l : List α} (h : l.length = 2) : ∃ a b, l = [a, b] := by
 match l, h with
 | [a, b], _ => exact ⟨a, b, rfl⟩
theorem impl_OpValid_eq (a : Int) : impl_OpValid.f a = some (decide (1 ≤ a) && decide (a ≤ 12)) := by
 unfold impl_OpValid.f
 by_cases h : a ≥ 1
 ·rw [if_pos h, decide_eq_true h, Bool.true_and]
 ·rw [if_neg h, decide_eq_false h, Bool.false_and]
theorem spec_OpValid_eq (a : Int) : spec_OpValid.f a = some (decide (1 ≤ a) && decide (a ≤ 12)) := by
 unfold spec_OpValid.f
 rw [l6In_eq]
 rfl
theorem impl_exprValid_ev : ∀ (d : Nat) (op n : Int) (l : List S34), d ≤ 1000 → EvP (fun k => impl_exprValid.f k op n l (d : Int)) (· = vx d op n l)
  | 0, op, n, l, hd => by
    refine EvP.step (fun k => impl_exprValid.f.eq_2 (k := k) ..) ?_
    refine EvP.ite (fun h => ?_) (fun h => ?_)
    · refine EvP.ite (fun _ => EvP.ite (fun _ => EvP.ite (fun _ => EvP.ret ?_) (fun _ => EvP.ret ?_)) (fun _ => EvP.ret ?_)) (fun _ => EvP.ret ?_) <;> simp [vx]
    · refine EvP.ite (fun h => ?_) (fun h => ?_)
      · refine EvP.ite (fun _ => EvP.ite (fun _ => EvP.ite (fun _ => EvP.ret ?_) (fun _ => EvP.ret ?_)) (fun _ => EvP.ret ?_)) (fun _ => EvP.ret ?_) <;> simp [vx]
      · refine EvP.bind0 (impl_OpValid_eq op) (EvP.ite (fun _ => EvP.ite (fun _ => EvP.ite (fun _ => EvP.no (by omega) (EvP.ret ?_)) (fun _ => EvP.ret ?_)) (fun _ => EvP.ret ?_)) (fun _ => EvP.ret ?_)) <;> simp [vx]
  | d + 1, op, n, l, hd => by
    refine EvP.step (fun k => impl_exprValid.f.eq_2 (k := k) ..) ?_
    unfold vx
    refine EvP.ite (fun h => ?_) (fun h => ?_)
    · rw [if_pos h]
      refine EvP.ite (fun h1 => EvP.ite (fun h2 => EvP.ite (fun h3 => EvP.ret ?_) (fun h3 => EvP.ret ?_)) (fun h2 => EvP.ret ?_)) (fun h1 => EvP.ret ?_)
      · rw [decide_eq_true (show 0 ≤ n from h1), decide_eq_true h2, decide_eq_true (show l.length = 0 by omega)]
        simp
      · rw [decide_eq_false (p := l.length = 0) (by omega)]
        simp
      · rw [decide_eq_false h2]
        simp
      · rw [decide_eq_false (p := 0 ≤ n) h1]
        simp
    · rw [if_neg h]
      refine EvP.ite (fun h => ?_) (fun h13 => ?_)
      · rw [if_pos h]
        refine EvP.ite (fun h1 => EvP.ite (fun h2 => EvP.ite (fun h3 => EvP.ret ?_) (fun h3 => EvP.ret ?_)) (fun h2 => EvP.ret ?_)) (fun h1 => EvP.ret ?_)
        · rw [decide_eq_true (show 0 ≤ n from h1), decide_eq_true h2, decide_eq_true (show l.length = 0 by omega)]
          simp
        · rw [decide_eq_false (p := l.length = 0) (by omega)]
          simp
        · rw [decide_eq_false h2]
          simp
        · rw [decide_eq_false (p := 0 ≤ n) h1]
          simp
      · rw [if_neg h13]
        refine EvP.bind0 (impl_OpValid_eq op) (EvP.ite (fun h1 => ?_) (fun h1 => EvP.ret ?_))
        · simp only [Bool.and_eq_true, decide_eq_true_eq] at h1
          rw [decide_eq_true h1.1, decide_eq_true h1.2]
          refine EvP.ite (fun h2 => ?_) (fun h2 => EvP.ret (by rw [decide_eq_false h2]; rfl))
          rw [decide_eq_true h2]
          refine EvP.ite (fun h3 => ?_) (fun h3 => EvP.ret ?_)
          · obtain ⟨a, b, rfl⟩ := two_of (show l.length = 2 by omega)
            refine EvP.ite (fun h4 => ?_) (fun h4 => EvP.ret ?_)
            · rw [w64 (by omega) (by omega), show ((d + 1 : Nat) : Int) - 1 = (d : Int) by omega, rdE_0, rdE_1]
              refine EvP.yes (by simp) (EvP.bindEq (impl_exprValid_ev d _ _ _ (by omega)) (EvP.ite (fun h5 => ?_) (fun h5 => EvP.ret ?_)))
              · refine EvP.yes (by simp) (EvP.bindEq (impl_exprValid_ev d _ _ _ (by omega)) (EvP.ret ?_))
                simp [h5]
              · simp [h5]
            · have hd0 : d = 0 := by omega
              subst hd0
              rfl
          · split
            · simp at h3
            · rfl
        · symm
          rw [Bool.eq_false_iff]
          intro e
          simp only [Bool.and_eq_true, decide_eq_true_eq] at e h1
          exact h1 ⟨e.1, e.2.1⟩
theorem spec_l4Ok_ev : ∀ (d : Nat) (op n : Int) (l : List S34), d ≤ 1000 → EvP (fun k => spec_l4Ok.f k op n l (d : Int)) (· = vx d op n l)
  | 0, op, n, l, hd => EvP.step (fun k => spec_l4Ok.f.eq_2 (k := k) ..) (EvP.yes (by omega) (EvP.ret rfl))
  | d + 1, op, n, l, hd => by
    have hlen : ((l.length : Int) == 0) = decide (l.length = 0) := by
      rw [Bool.eq_iff_iff, beq_iff_eq, decide_eq_true_eq]
      omega
    refine EvP.step (fun k => spec_l4Ok.f.eq_2 (k := k) ..) (EvP.no (by omega) ?_)
    unfold vx
    refine EvP.ite (fun h => ?_) (fun h => ?_)
    · rw [if_pos h, l6In_eq]
      refine EvP.bind0 rfl (EvP.ite (fun h1 => EvP.ret ?_) (fun h1 => EvP.ret ?_))
      · rw [hlen]
        simp only [Bool.and_eq_true, decide_eq_true_eq] at h1
        rw [decide_eq_true h1.1, decide_eq_true h1.2]
        rfl
      · rw [← Bool.and_assoc, Bool.eq_false_iff.mpr h1]
        rfl
    · rw [if_neg h]
      refine EvP.ite (fun h => ?_) (fun h13 => ?_)
      · rw [if_pos h, l6In_eq]
        have e3 : decide (n < 4) = decide (n ≤ 3) := decide_eq_decide.mpr (by omega)
        rw [e3]
        refine EvP.bind0 rfl (EvP.ite (fun h1 => EvP.ret ?_) (fun h1 => EvP.ret ?_))
        · rw [hlen]
          simp only [Bool.and_eq_true, decide_eq_true_eq] at h1
          rw [decide_eq_true h1.1, decide_eq_true h1.2]
          rfl
        · rw [← Bool.and_assoc, Bool.eq_false_iff.mpr h1]
          rfl
      · rw [if_neg h13]
        refine EvP.bind0 (spec_OpValid_eq op) (EvP.ite (fun h1 => ?_) (fun h1 => EvP.ret ?_))
        · simp only [Bool.and_eq_true, decide_eq_true_eq] at h1
          rw [decide_eq_true h1.1, decide_eq_true h1.2]
          refine EvP.ite (fun h2 => ?_) (fun h2 => EvP.ret (by rw [decide_eq_false h2]; rfl))
          rw [decide_eq_true h2]
          refine EvP.ite (fun h3 => ?_) (fun h3 => EvP.ret ?_)
          · obtain ⟨a, b, rfl⟩ := two_of (show l.length = 2 by omega)
            rw [w64 (by omega) (by omega), show ((d + 1 : Nat) : Int) - 1 = (d : Int) by omega, rdE_0, rdE_1]
            refine EvP.yes (by simp) (EvP.bindEq (spec_l4Ok_ev d _ _ _ (by omega)) (EvP.ite (fun h5 => ?_) (fun h5 => EvP.ret ?_)))
            · refine EvP.yes (by simp) (EvP.bindEq (spec_l4Ok_ev d _ _ _ (by omega)) (EvP.ret ?_))
              simp [h5]
            · simp [h5]
          · split
            · simp at h3
            · rfl
        · rw [← Bool.and_assoc, Bool.eq_false_iff.mpr h1]
          rfl
theorem spec_ExprValid_ev (op n : Int) (l : List S34) : EvP (fun k => spec_ExprValid.f k op n l) (· = vx 5 op n l) := by
  unfold spec_ExprValid.f
  exact EvP.bindEq (spec_l4Ok_ev 5 op n l (by omega)) (EvP.ret rfl)
theorem impl_ExprValid_ev (op n : Int) (l : List S34) : EvP (fun k => impl_ExprValid.f k op n l) (· = vx 5 op n l) := by
  unfold impl_ExprValid.f
  exact EvP.bindEq (impl_exprValid_ev 5 op n l (by omega)) (EvP.ret rfl)
mutual
def cS : S37 → Nat
 | ⟨_, _, _, _, b, e⟩ => cSs b + cSs e
def cSs : List S37 → Nat
 | [] => 0
 | x :: xs => cS x + 1 + cSs xs
end
theorem cS_f (x : S37) : cS x = cSs x.f4 + cSs x.f5 := by
 cases x
 rw [cS]
theorem cSs_length : ∀ l : List S37, l.length ≤ cSs l
 | [] => Nat.zero_le _
 | x :: xs => by
  have := cSs_length xs
  rw [cSs, List.length_cons]
  omega
theorem cSs_append : ∀ l m : List S37, cSs (l ++ m) = cSs l + cSs m
 | [], m => by rw [cSs]; simp
 | x :: xs, m => by
  rw [List.cons_append, cSs, cSs, cSs_append xs m]
  omega
theorem cSs_mem : ∀ (l : List S37) (x : S37), x ∈ l → cS x < cSs l
 | y :: ys, x, h => by
  rw [cSs]
  rcases List.mem_cons.1 h with rfl | h
  ·omega
  ·have := cSs_mem ys x h
   omega
theorem cSs_drop (l : List S37) (i : Nat) (h : i < l.length) : cSs (l.drop i) = cS l[i] + 1 + cSs (l.drop (i + 1)) := by
 rw [List.drop_eq_getElem_cons h, cSs]
theorem cSs_nil : cSs [] = 0 := by rw [cSs]
theorem cSs_take_drop (l : List S37) (n : Nat) : cSs (l.take n) + cSs (l.drop n) = cSs l := by
 rw [← cSs_append, List.take_append_drop]
theorem rdS_nat (l : List S37) (i : Nat) (h : i < l.length) : rd_T37 l (i : Int) = l[i] := by
 unfold rd_T37
 rw [Int.toNat_natCast, List.getD_eq_getElem?_getD, List.getElem?_eq_getElem h]
 rfl
def varOk (use : Bool) (va : Int) : Bool := if use = true then decide (0 ≤ va) && decide (va ≤ 3) else va == 0
def boxOk (boxes : Int) (use : Bool) (bx : Int) : Bool := if use = true then decide (0 ≤ bx) && decide (bx ≤ boxes - 1) else bx == 0
def plainOk (op n : Int) (la : List S34) : Bool := op == 0 && (n == 0 && la.length == 0)
def restOk (boxes : Int) (nv nb ne nd no : Bool) (va bx op n : Int) (la : List S34) (lb le : Nat) : Bool :=
 varOk nv va && (boxOk boxes nb bx && ((if ne = true then vx 5 op n la else plainOk op n la) && ((nd || lb == 0) && (no || le == 0))))
def stOk (boxes kd va bx op n : Int) (la : List S34) (lb le : Nat) : Bool :=
 if kd = 1 then restOk boxes true false true false false va bx op n la lb le
 else if kd = 2 then restOk boxes false false true true true va bx op n la lb le
 else if kd = 3 then restOk boxes false false true true false va bx op n la lb le
 else if kd = 4 then restOk boxes false true true false false va bx op n la lb le
 else if kd = 5 then restOk boxes true true false false false va bx op n la lb le
 else if kd = 7 then restOk boxes false false true false false va bx op n la lb le
 else if kd = 6 then restOk boxes false false false false false va bx op n la lb le
 else false
def stS (boxes : Int) (s : S37) : Bool := stOk boxes s.f0 s.f1 s.f2 s.f3.f0 s.f3.f1 s.f3.f2 s.f4.length s.f5.length
def isBlk (s : S37) : Bool := s.f0 == 2 || s.f0 == 3
def okOne (boxes : Int) : Nat → S37 → Bool
 | 0, s => stS boxes s && !isBlk s
 | d + 1, s => stS boxes s && (!isBlk s || (s.f4.all (okOne boxes d) && s.f5.all (okOne boxes d)))
def okL (boxes : Int) (d : Nat) (l : List S37) : Bool := l.all (okOne boxes d)
theorem okOne_st {boxes : Int} {d : Nat} {s : S37} (h : okOne boxes d s = true) : stS boxes s = true := by
 cases d <;> (simp only [okOne, Bool.and_eq_true] at h; exact h.1)
theorem stOk_flat {boxes kd va bx op n : Int} {la : List S34} {lb le : Nat} (h : stOk boxes kd va bx op n la lb le = true) (h2 : kd ≠ 2) (h3 : kd ≠ 3) : lb = 0 ∧ le = 0 := by
 unfold stOk at h
 rw [if_neg h2, if_neg h3] at h
 repeat' split at h
 all_goals first
  | (cases h; done)
  | (simp only [restOk, Bool.and_eq_true, Bool.false_or, beq_iff_eq] at h; exact h.2.2.2)
theorem flat_cS {boxes : Int} {s : S37} (h : stS boxes s = true) (h2 : ¬ (s.f0 = 2 ∨ s.f0 = 3)) : cS s = 0 := by
 obtain ⟨h4, h5⟩ := stOk_flat h (fun e => h2 (.inl e)) (fun e => h2 (.inr e))
 rw [cS_f, List.eq_nil_of_length_eq_zero h4, List.eq_nil_of_length_eq_zero h5, cSs]
theorem isBlk_iff (s : S37) : isBlk s = true ↔ s.f0 = 2 ∨ s.f0 = 3 := by
 unfold isBlk
 simp
theorem inr_var (use : Bool) (va : Int) : inr va 4 use = varOk use va := by
 rw [Bool.eq_iff_iff]
 cases use
 ·simp [inr, varOk]
 ·simp [inr, varOk]
  omega
theorem stv_rest_ev (nv nb ne nd no : Bool) (va bx op n : Int) (la : List S34) (lb le : Nat) (boxes : Int) :
    EvP (fun k => stv_rest k nv nb ne nd no va bx op n la lb le boxes) (· = restOk boxes nv nb ne nd no va bx op n la lb le) := by
  unfold stv_rest restOk
  rw [inr_var]
  refine EvP.ite (fun h1 => ?_) (fun h1 => EvP.ret (by rw [Bool.eq_false_iff.mpr h1]; rfl))
  rw [h1, Bool.true_and]
  have hb : (inr bx boxes nb = true ∧ ¬ (nb = true ∧ boxes ≤ bx)) ↔ boxOk boxes nb bx = true := by
    cases nb
    · simp [inr, boxOk]
    · simp [inr, boxOk]
      omega
  refine EvP.ite (fun h2 => EvP.ite (fun h3 => EvP.ret ?_) (fun h3 => ?_)) (fun h2 => EvP.ret ?_)
  · have : boxOk boxes nb bx = false := Bool.eq_false_iff.mpr (fun e => (hb.mpr e).2 h3)
    rw [this]
    rfl
  · rw [hb.mp ⟨h2, h3⟩, Bool.true_and]
    refine EvP.ite (fun h4 => ?_) (fun h4 => ?_)
    · rw [if_pos h4]
      refine EvP.bindEq (impl_ExprValid_ev op n la) (EvP.ite (fun h5 => EvP.ret (by rw [h5, Bool.true_and])) (fun h5 => EvP.ret (by rw [Bool.eq_false_iff.mpr h5]; rfl)))
    · rw [if_neg h4]
      unfold plainOk
      refine EvP.ite (fun h5 => EvP.ite (fun h6 => EvP.ite (fun h7 => EvP.ret ?_) (fun h7 => EvP.ret ?_)) (fun h6 => EvP.ret ?_)) (fun h5 => EvP.ret ?_)
      · rw [beq_eq_false_iff_ne.mpr (show la.length ≠ 0 by omega)]
        simp
      · rw [h5, h6, beq_iff_eq.mpr (show la.length = 0 by omega)]
        simp
      · rw [beq_eq_false_iff_ne.mpr h6]
        simp
      · rw [beq_eq_false_iff_ne.mpr h5]
        simp
  · have : boxOk boxes nb bx = false := Bool.eq_false_iff.mpr (fun e => h2 (hb.mpr e).1)
    rw [this]
    rfl
theorem impl_stmtValid_ev (kd va bx op n : Int) (la : List S34) (lb le : Nat) (boxes : Int) :
    EvP (fun k => impl_stmtValid.f k kd va bx op n la lb le boxes) (· = stOk boxes kd va bx op n la lb le) := by
  unfold impl_stmtValid.f stOk
  have hr := fun nv nb ne nd no => stv_rest_ev nv nb ne nd no va bx op n la lb le boxes
  repeat (refine EvP.ite (fun h => ?_) (fun h => ?_); · rw [if_pos h]; exact hr _ _ _ _ _
          rw [if_neg h])
  exact EvP.ret rfl
def BlkSays (boxes : Int) (d : Nat) (l : List S37) (cnt : Int) (p : Bool × Int) : Prop :=
 p.1 = (okL boxes d l && decide (cnt + cSs l ≤ 16)) ∧ (p.1 = true → p.2 = cnt + cSs l)
theorem blockValid_l0 (boxes blocks : Int) (d : Nat) (hd : d ≤ 3) (hb : blocks = 3 - d) (l : List S37) (hl : cSs l ≤ 1000000000)
  (sub : ∀ d', d = d' + 1 → ∀ (m : List S37) (cnt : Int), cSs m ≤ 1000000000 → 0 ≤ cnt → cnt ≤ 16 → EvP (fun k => impl_blockValid.f k m boxes (wrap64 (blocks + 1)) cnt) (BlkSays boxes d' m cnt)) :
  ∀ (r j : Nat) (cnt : Int), j + r = l.length → 0 ≤ cnt → cnt ≤ 16 →
   EvP (fun k => impl_blockValid.l0 k l boxes blocks (j : Int) cnt) (fun p => p.1 = (okL boxes d (l.drop j) && decide (cnt + cSs (l.drop j) - r ≤ 16)) ∧ (p.1 = true → p.2 = cnt + cSs (l.drop j) - r)) := by
 intro r
 have hlen := cSs_length l
 induction r with
 | zero =>
  intro j cnt hj h0 h1
  refine EvP.step (fun k => impl_blockValid.l0.eq_2 (k := k) ..) (EvP.no (by omega) (EvP.ret ?_))
  rw [List.drop_eq_nil_of_le (by omega), cSs_nil]
  constructor
  ·simp [okL]
   omega
  ·intro _
   simp
 | succ r ih =>
  intro j cnt hj h0 h1
  have hlt : j < l.length := by omega
  have hc := cSs_drop l j hlt
  have hr : r ≤ cSs (l.drop (j + 1)) := by
   have := cSs_length (l.drop (j + 1))
   rw [List.length_drop] at this
   omega
  have hm := cSs_mem l _ (List.getElem_mem hlt)
  have hcs := cS_f l[j]
  have hall : okL boxes d (l.drop j) = (okOne boxes d l[j] && okL boxes d (l.drop (j + 1))) := by
   rw [List.drop_eq_getElem_cons hlt]
   rfl
  rw [hall]
  refine EvP.step (fun k => impl_blockValid.l0.eq_2 (k := k) ..) (EvP.yes (by omega) (EvP.yes (by omega) ?_))
  rw [rdS_nat l j hlt, w64 (n := (j : Int) + 1) (by omega) (by omega)]
  refine EvP.bindEq (impl_stmtValid_ev _ _ _ _ _ _ _ _ _) (EvP.ite (fun hs => ?_) (fun hs => EvP.ret ?_))
  ·have hs : stS boxes l[j] = true := hs
   refine EvP.no (by omega) (EvP.ite (fun hk => ?_) (fun hk => ?_))
   ·have hbk : isBlk l[j] = true := (isBlk_iff _).mpr hk
    cases d with
    | zero =>
     refine EvP.yes (by omega) (EvP.ret ?_)
     have : okOne boxes 0 l[j] = false := by simp [okOne, hbk]
     rw [this]
     exact ⟨rfl, fun h => by cases h⟩
    | succ d' =>
     have ho : okOne boxes (d' + 1) l[j] = (okL boxes d' l[j].f4 && okL boxes d' l[j].f5) := by
      simp only [okOne, hs, hbk, okL]
      rfl
     rw [ho]
     refine EvP.no (by omega) (EvP.bind (sub d' rfl _ cnt (by omega) h0 h1) fun p hp => ?_)
     obtain ⟨hp1, hp2⟩ := hp
     refine EvP.ite (fun hy => ?_) (fun hy => EvP.ret ?_)
     ·have e2 := hp2 hy
      rw [hy] at hp1
      have hq := hp1.symm
      rw [Bool.and_eq_true, decide_eq_true_eq] at hq
      rw [e2]
      refine EvP.bind (sub d' rfl _ _ (by omega) (by omega) hq.2) fun q hq' => ?_
      obtain ⟨hq1, hq2⟩ := hq'
      refine EvP.ite (fun hz => ?_) (fun hz => EvP.ret ?_)
      ·have e3 := hq2 hz
       rw [hz] at hq1
       have hq3 := hq1.symm
       rw [Bool.and_eq_true, decide_eq_true_eq] at hq3
       rw [e3]
       refine (ih (j + 1) _ (by omega) (by omega) hq3.2).mono fun a ha => ?_
       rw [hq.1, hq3.1, Bool.true_and, Bool.true_and]
       refine ⟨ha.1.trans ?_, fun h => (ha.2 h).trans ?_⟩
       ·congr 1
        exact decide_eq_decide.mpr (by omega)
       ·omega
      ·have hz' := Bool.eq_false_iff.mpr hz
       rw [hz'] at hq1
       refine ⟨?_, fun h => by cases h⟩
       show false = _
       symm
       rw [Bool.eq_false_iff]
       intro e
       simp only [Bool.and_eq_true, decide_eq_true_eq] at e
       have : (okL boxes d' l[j].f5 && decide (cnt + ↑(cSs l[j].f4) + ↑(cSs l[j].f5) ≤ 16)) = true := by
        rw [e.1.1.2, decide_eq_true (by omega)]
        rfl
       rw [this] at hq1
       cases hq1
     ·have hy' := Bool.eq_false_iff.mpr hy
      rw [hy'] at hp1
      refine ⟨?_, fun h => by cases h⟩
      show false = _
      symm
      rw [Bool.eq_false_iff]
      intro e
      simp only [Bool.and_eq_true, decide_eq_true_eq] at e
      have : (okL boxes d' l[j].f4 && decide (cnt + ↑(cSs l[j].f4) ≤ 16)) = true := by
       rw [e.1.1.1, decide_eq_true (by omega)]
       rfl
      rw [this] at hp1
      cases hp1
   ·have hbk : isBlk l[j] = false := Bool.eq_false_iff.mpr (fun e => hk ((isBlk_iff _).mp e))
    have ho : okOne boxes d l[j] = true := by
     cases d <;> simp [okOne, hs, hbk]
    have hz := flat_cS hs hk
    rw [ho, Bool.true_and]
    refine (ih (j + 1) cnt (by omega) h0 h1).mono fun a ha => ?_
    refine ⟨ha.1.trans ?_, fun h => (ha.2 h).trans ?_⟩
    ·congr 1
     exact decide_eq_decide.mpr (by omega)
    ·omega
  ·have hs : stS boxes l[j] = false := Bool.eq_false_iff.mpr hs
   have ho : okOne boxes d l[j] = false := Bool.eq_false_iff.mpr (fun e => by rw [okOne_st e] at hs; cases hs)
   rw [ho]
   exact ⟨rfl, fun h => by cases h⟩
theorem impl_blockValid_ev (boxes : Int) : ∀ (d : Nat) (blocks : Int) (l : List S37) (cnt : Int), d ≤ 3 → blocks = 3 - d → cSs l ≤ 1000000000 → 0 ≤ cnt → cnt ≤ 16 →
  EvP (fun k => impl_blockValid.f k l boxes blocks cnt) (BlkSays boxes d l cnt) := by
 intro d
 induction d with
 | zero =>
  intro blocks l cnt hd hb hl h0 h1
  have hlen := cSs_length l
  refine EvP.step (fun k => impl_blockValid.f.eq_2 (k := k) ..) ?_
  rw [w64 (n := cnt + (l.length : Int)) (by omega) (by omega)]
  refine EvP.ite (fun h => EvP.ret ?_) (fun h => ?_)
  ·refine ⟨?_, fun h => by cases h⟩
   rw [decide_eq_false (by omega)]
   simp
  ·refine (blockValid_l0 boxes blocks 0 hd hb l hl (fun d' e => by omega) l.length 0 _ (by omega) (by omega) (by omega)).mono fun a ha => ?_
   rw [List.drop_zero] at ha
   refine ⟨ha.1.trans ?_, fun h => (ha.2 h).trans ?_⟩
   ·congr 1
    exact decide_eq_decide.mpr (by omega)
   ·omega
 | succ d ih =>
  intro blocks l cnt hd hb hl h0 h1
  have hlen := cSs_length l
  refine EvP.step (fun k => impl_blockValid.f.eq_2 (k := k) ..) ?_
  rw [w64 (n := cnt + (l.length : Int)) (by omega) (by omega)]
  refine EvP.ite (fun h => EvP.ret ?_) (fun h => ?_)
  ·refine ⟨?_, fun h => by cases h⟩
   rw [decide_eq_false (by omega)]
   simp
  ·refine (blockValid_l0 boxes blocks (d + 1) hd hb l hl (fun d' e m cnt hm h0 h1 => ?_) l.length 0 _ (by omega) (by omega) (by omega)).mono fun a ha => ?_
   ·have e' : d = d' := by omega
    subst e'
    rw [w64 (by omega) (by omega)]
    exact ih _ m cnt (by omega) (by omega) hm h0 h1
   ·rw [List.drop_zero] at ha
    refine ⟨ha.1.trans ?_, fun h => (ha.2 h).trans ?_⟩
    ·congr 1
     exact decide_eq_decide.mpr (by omega)
    ·omega
def okT (boxes : Int) (l : List S37) : Bool := okL boxes 3 l && decide (cSs l ≤ 16)
theorem impl_stmtsValid_ev (boxes : Int) (l : List S37) (hl : cSs l ≤ 1000000000) : EvP (fun k => impl_stmtsValid.f k l boxes) (· = okT boxes l) := by
  unfold impl_stmtsValid.f
  refine EvP.bind (impl_blockValid_ev boxes 3 0 l 0 (by omega) (by omega) hl (by omega) (by omega)) fun p hp => EvP.ret ?_
  rw [hp.1]
  unfold okT
  congr 1
  exact decide_eq_decide.mpr (by omega)
theorem spec_l11Var_eq (a b c d e : Int) (l : List S34) (m n : List S37) (u : Bool) : spec_l11Var.f a b c d e l m n u = some (varOk u b) := by
 unfold spec_l11Var.f varOk
 rw [l6In_eq]
 cases u <;> rfl
theorem spec_l11Box_eq (a b c d e : Int) (l : List S34) (m n : List S37) (u : Bool) : spec_l11Box.f a b c d e l m n u = some (boxOk 3 u c) := by
 unfold spec_l11Box.f boxOk
 rw [l6In_eq]
 cases u <;> rfl
theorem spec_l11Plain_eq (op n : Int) (l : List S34) : spec_l11Plain.f op n l = some (plainOk op n l) := by
 unfold spec_l11Plain.f plainOk
 have hlen : ((l.length : Int) == 0) = (l.length == 0) := by
  rw [Bool.eq_iff_iff, beq_iff_eq, beq_iff_eq]
  omega
 by_cases h : op = 0
 ·rw [if_pos h, h]
  by_cases h2 : n = 0
  ·rw [if_pos h2, h2, hlen]
   rfl
  ·rw [if_neg h2, beq_eq_false_iff_ne.mpr h2]
   rfl
 ·rw [if_neg h, beq_eq_false_iff_ne.mpr h]
  rfl
theorem spec_l11Simple_ev (kd va bx op n : Int) (la : List S34) (m1 m2 : List S37) (h2 : kd ≠ 2) (h3 : kd ≠ 3) :
    EvP (fun k => spec_l11Simple.f k kd va bx op n la m1 m2) (· = stOk 3 kd va bx op n la m1.length m2.length) := by
  unfold spec_l11Simple.f
  have yes : ∀ b : Bool, ((m1.length == 0 && m2.length == 0) = !b) → EvP (fun k => spec_l11Simple.j0 k b kd va bx op n la m1 m2) (· = stOk 3 kd va bx op n la m1.length m2.length) := by
    intro b hb
    refine EvP.step (fun k => spec_l11Simple.j0.eq_2 (k := k) ..) ?_
    refine EvP.ite (fun h => EvP.ret ?_) (fun h => ?_)
    · symm
      rw [Bool.eq_false_iff]
      intro e
      obtain ⟨z1, z2⟩ := stOk_flat e h2 h3
      rw [z1, z2, h] at hb
      cases hb
    · have hb' : (m1.length == 0 && m2.length == 0) = true := by
        rw [hb, Bool.eq_false_iff.mpr h]
        rfl
      unfold stOk
      have hT : ∀ a b c : Bool, (a && (b && (c && ((false || m1.length == 0) && (false || m2.length == 0))))) = (a && (b && c)) := by
        intro a b c
        rw [Bool.false_or, Bool.false_or, hb', Bool.and_true]
      refine EvP.ite (fun h1 => ?_) (fun h1 => ?_)
      · rw [if_pos h1]
        unfold restOk
        rw [hT]
        refine EvP.bind0 (spec_l11Var_eq ..) (EvP.ite (fun hv => EvP.bind0 (spec_l11Box_eq ..) (EvP.ite (fun hx => EvP.bindEq (spec_ExprValid_ev ..) (EvP.ret ?_)) (fun hx => EvP.ret ?_))) (fun hv => EvP.ret ?_)) <;> simp [*]
      · rw [if_neg h1, if_neg h2, if_neg h3]
        refine EvP.ite (fun h1 => ?_) (fun h1 => ?_)
        · rw [if_pos h1]
          unfold restOk
          rw [hT]
          refine EvP.bind0 (spec_l11Var_eq ..) (EvP.ite (fun hv => EvP.bind0 (spec_l11Box_eq ..) (EvP.ite (fun hx => EvP.bindEq (spec_ExprValid_ev ..) (EvP.ret ?_)) (fun hx => EvP.ret ?_))) (fun hv => EvP.ret ?_)) <;> simp [*]
        · rw [if_neg h1]
          refine EvP.ite (fun h1 => ?_) (fun h1 => ?_)
          · rw [if_pos h1]
            unfold restOk
            rw [hT]
            refine EvP.bind0 (spec_l11Var_eq ..) (EvP.ite (fun hv => EvP.bind0 (spec_l11Box_eq ..) (EvP.ite (fun hx => EvP.bind0 (spec_l11Plain_eq ..) (EvP.ret ?_)) (fun hx => EvP.ret ?_))) (fun hv => EvP.ret ?_)) <;> simp [*]
          · rw [if_neg h1]
            refine EvP.ite (fun h6 => ?_) (fun h6 => ?_)
            · rw [if_neg (by omega), if_pos h6]
              unfold restOk
              rw [hT]
              refine EvP.bind0 (spec_l11Var_eq ..) (EvP.ite (fun hv => EvP.bind0 (spec_l11Box_eq ..) (EvP.ite (fun hx => EvP.bind0 (spec_l11Plain_eq ..) (EvP.ret ?_)) (fun hx => EvP.ret ?_))) (fun hv => EvP.ret ?_)) <;> simp [*]
            · refine EvP.ite (fun h7 => ?_) (fun h7 => ?_)
              · rw [if_pos h7]
                unfold restOk
                rw [hT]
                refine EvP.bind0 (spec_l11Var_eq ..) (EvP.ite (fun hv => EvP.bind0 (spec_l11Box_eq ..) (EvP.ite (fun hx => EvP.bindEq (spec_ExprValid_ev ..) (EvP.ret ?_)) (fun hx => EvP.ret ?_))) (fun hv => EvP.ret ?_)) <;> simp [*]
              · rw [if_neg h7, if_neg h6]
                exact EvP.ret rfl
  refine EvP.ite (fun h => yes true ?_) (fun h => yes _ ?_)
  · rw [beq_eq_false_iff_ne.mpr (show m1.length ≠ 0 by omega)]
    rfl
  · rw [beq_iff_eq.mpr (show m1.length = 0 by omega), Bool.true_and, ← decide_not, Bool.eq_iff_iff, beq_iff_eq, decide_eq_true_eq]
    omega
theorem spec_l11Blocks_l0 (l : List S37) (hl : l.length ≤ 1000000000) (x1 : Int) (d : Nat) (sub : ∀ x ∈ l, EvP (fun k => spec_l11Ok.f k x.f0 x.f1 x.f2 x.f3.f0 x.f3.f1 x.f3.f2 x.f4 x.f5 x1) (· = okOne 3 d x)) :
    ∀ (r j : Nat), j + r = l.length → EvP (fun k => spec_l11Blocks.l0 k l x1 (j : Int)) (· = okL 3 d (l.drop j)) := by
  intro r
  induction r with
  | zero =>
    intro j hj
    refine EvP.step (fun k => spec_l11Blocks.l0.eq_2 (k := k) ..) (EvP.no (by omega) (EvP.ret ?_))
    rw [List.drop_eq_nil_of_le (by omega)]
    rfl
  | succ r ih =>
    intro j hj
    have hlt : j < l.length := by omega
    refine EvP.step (fun k => spec_l11Blocks.l0.eq_2 (k := k) ..) (EvP.yes (by omega) (EvP.yes (by omega) ?_))
    rw [rdS_nat l j hlt, w64 (n := (j : Int) + 1) (by omega) (by omega)]
    have hall : okL 3 d (l.drop j) = (okOne 3 d l[j] && okL 3 d (l.drop (j + 1))) := by
      rw [List.drop_eq_getElem_cons hlt]
      rfl
    rw [hall]
    refine EvP.bindEq (sub _ (List.getElem_mem hlt)) (EvP.ite (fun h => ?_) (fun h => EvP.ret ?_))
    · rw [h, Bool.true_and]
      exact ih (j + 1) (by omega)
    · rw [Bool.eq_false_iff.mpr h]
      rfl
theorem spec_l11Blocks_of (l : List S37) (hl : l.length ≤ 1000000000) (x1 : Int) (d : Nat) (sub : ∀ x ∈ l, EvP (fun k => spec_l11Ok.f k x.f0 x.f1 x.f2 x.f3.f0 x.f3.f1 x.f3.f2 x.f4 x.f5 x1) (· = okOne 3 d x)) :
    EvP (fun k => spec_l11Blocks.f k l x1) (· = okL 3 d l) :=
  EvP.step (fun k => spec_l11Blocks.f.eq_2 (k := k) ..) (spec_l11Blocks_l0 l hl x1 d sub l.length 0 (by omega))
theorem spec_l11Ok_ev : ∀ (d : Nat) (x1 : Int) (x : S37), d ≤ 3 → x1 = d → cS x ≤ 1000000000 → EvP (fun k => spec_l11Ok.f k x.f0 x.f1 x.f2 x.f3.f0 x.f3.f1 x.f3.f2 x.f4 x.f5 x1) (· = okOne 3 d x) := by
  intro d
  induction d with
  | zero =>
    intro x1 x hd h1 hc
    have j1 : EvP (fun k => spec_l11Ok.j1 k x1 true x.f0 x.f1 x.f2 x.f3.f0 x.f3.f1 x.f3.f2 x.f4 x.f5) (· = false) :=
      EvP.step (fun k => spec_l11Ok.j1.eq_2 (k := k) ..) (EvP.yes rfl (EvP.ret rfl))
    refine EvP.step (fun k => spec_l11Ok.f.eq_2 (k := k) ..) (EvP.ite (fun h2 => ?_) (fun h2 => ?_))
    · have : okOne 3 0 x = false := by simp [okOne, isBlk, h2]
      rw [this]
      refine EvP.step (fun k => spec_l11Ok.j0.eq_2 (k := k) ..) (EvP.no Bool.false_ne_true (EvP.yes (by omega) j1))
    · refine EvP.step (fun k => spec_l11Ok.j0.eq_2 (k := k) ..) (EvP.ite (fun h3 => ?_) (fun h3 => EvP.yes (by omega) ?_))
      · have h3 : x.f0 ≠ 3 := bne_iff_ne.mp h3
        refine EvP.bindEq (spec_l11Simple_ev _ _ _ _ _ _ _ _ h2 h3) (EvP.ret ?_)
        simp [okOne, isBlk, h2, h3, stS]
      · have h3 : x.f0 = 3 := by simpa using h3
        have : okOne 3 0 x = false := by simp [okOne, isBlk, h3]
        rw [this]
        exact j1
  | succ d ih =>
    intro x1 x hd h1 hc
    have hcs := cS_f x
    have e1 : wrap64 (x1 - 1) = (d : Int) := by
      rw [w64 (by omega) (by omega)]
      omega
    have len4 := cSs_length x.f4
    have len5 := cSs_length x.f5
    have sub : ∀ m : List S37, cSs m ≤ 1000000000 → EvP (fun k => spec_l11Blocks.f k m (wrap64 (x1 - 1))) (· = okL 3 d m) := by
      intro m hm
      have := cSs_length m
      refine spec_l11Blocks_of m (by omega) _ d (fun y hy => ih _ y (by omega) e1 ?_)
      have := cSs_mem m y hy
      omega
    have j1 : ∀ b : Bool, isBlk x = true → (b = (x.f0 == 3 && decide ((x.f5.length : Int) > 0))) → EvP (fun k => spec_l11Ok.j1 k x1 b x.f0 x.f1 x.f2 x.f3.f0 x.f3.f1 x.f3.f2 x.f4 x.f5) (· = okOne 3 (d + 1) x) := by
      intro b hb hbb
      have ho : okOne 3 (d + 1) x = (stS 3 x && (okL 3 d x.f4 && okL 3 d x.f5)) := by
        simp only [okOne, hb, okL]
        rfl
      rw [ho]
      refine EvP.step (fun k => spec_l11Ok.j1.eq_2 (k := k) ..) (EvP.ite (fun h => EvP.ret ?_) (fun h => ?_))
      · rw [h] at hbb
        have h4 := hbb.symm
        simp only [Bool.and_eq_true, beq_iff_eq, decide_eq_true_eq] at h4
        have : stS 3 x = false := by
          have hne : (x.f5.length == 0) = false := beq_eq_false_iff_ne.mpr (by omega)
          simp [stS, stOk, h4.1, restOk, hne]
        rw [this]
        rfl
      · have hst : stS 3 x = (varOk false x.f1 && (boxOk 3 false x.f2 && vx 5 x.f3.f0 x.f3.f1 x.f3.f2)) := by
          rcases (isBlk_iff x).mp hb with h2 | h2
          · simp [stS, stOk, h2, restOk]
          · have h5 : x.f5.length = 0 := by
              rw [Bool.eq_false_iff.mpr h, h2] at hbb
              have := hbb.symm
              simp only [beq_self_eq_true, Bool.true_and, decide_eq_false_iff_not] at this
              omega
            simp [stS, stOk, h2, restOk, h5]
        rw [hst]
        refine EvP.bind0 (spec_l11Var_eq ..) (EvP.ite (fun hv => EvP.bind0 (spec_l11Box_eq ..) (EvP.ite (fun hx => EvP.bindEq (spec_ExprValid_ev ..) (EvP.ite (fun he => ?_) (fun he => EvP.ret ?_))) (fun hx => EvP.ret ?_))) (fun hv => EvP.ret ?_))
        · refine EvP.bindEq (sub x.f4 (by omega)) (EvP.ite (fun h4 => EvP.bindEq (sub x.f5 (by omega)) (EvP.ret ?_)) (fun h4 => EvP.ret ?_)) <;> simp [*]
        all_goals simp [*]
    refine EvP.step (fun k => spec_l11Ok.f.eq_2 (k := k) ..) (EvP.ite (fun h2 => ?_) (fun h2 => ?_))
    · refine EvP.step (fun k => spec_l11Ok.j0.eq_2 (k := k) ..) (EvP.no Bool.false_ne_true (EvP.no (by omega) (EvP.no (by omega) (j1 false ?_ ?_))))
      · simp [isBlk, h2]
      · simp [h2]
    · refine EvP.step (fun k => spec_l11Ok.j0.eq_2 (k := k) ..) (EvP.ite (fun h3 => ?_) (fun h3 => EvP.no (by omega) ?_))
      · have h3 : x.f0 ≠ 3 := bne_iff_ne.mp h3
        refine EvP.bindEq (spec_l11Simple_ev _ _ _ _ _ _ _ _ h2 h3) (EvP.ret ?_)
        simp [okOne, isBlk, h2, h3, stS]
      · have h3 : x.f0 = 3 := by simpa using h3
        refine EvP.yes h3 (j1 _ ?_ ?_)
        · simp [isBlk, h3]
        · simp [h3]
theorem spec_l11Blocks_ev (l : List S37) (hl : cSs l ≤ 1000000000) : EvP (fun k => spec_l11Blocks.f k l 3) (· = okL 3 3 l) := by
  have := cSs_length l
  refine spec_l11Blocks_of l (by omega) _ 3 (fun y hy => spec_l11Ok_ev 3 3 y (by omega) (by omega) ?_)
  have := cSs_mem l y hy
  omega
theorem spec_l11Count_ev : ∀ (c : Nat) (l : List S37), cSs l ≤ c → c ≤ 1000000000 → EvP (fun k => spec_l11Count.f k l) (· = (cSs l : Int)) := by
  intro c
  induction c with
  | zero =>
    intro l hl hc
    have := cSs_length l
    refine EvP.step (fun k => spec_l11Count.f.eq_2 (k := k) ..) (EvP.step (fun k => spec_l11Count.l0.eq_2 (k := k) ..) (EvP.no (by omega) (EvP.ret ?_)))
    omega
  | succ c ih =>
    intro l hl hc
    have hlen := cSs_length l
    have loop : ∀ (r j : Nat) (a : Int), j + r = l.length → 0 ≤ a → a + cSs (l.drop j) ≤ 1000000000 → EvP (fun k => spec_l11Count.l0 k l a (j : Int)) (· = a + cSs (l.drop j)) := by
      intro r
      induction r with
      | zero =>
        intro j a hj h0 h1
        refine EvP.step (fun k => spec_l11Count.l0.eq_2 (k := k) ..) (EvP.no (by omega) (EvP.ret ?_))
        rw [List.drop_eq_nil_of_le (by omega), cSs_nil]
        omega
      | succ r ih2 =>
        intro j a hj h0 h1
        have hlt : j < l.length := by omega
        have hd := cSs_drop l j hlt
        have hm := cSs_mem l _ (List.getElem_mem hlt)
        have hcs := cS_f l[j]
        refine EvP.step (fun k => spec_l11Count.l0.eq_2 (k := k) ..) (EvP.yes (by omega) (EvP.yes (by omega) ?_))
        rw [rdS_nat l j hlt, w64 (n := (j : Int) + 1) (by omega) (by omega)]
        refine EvP.bindEq (ih _ (by omega) (by omega)) (EvP.bindEq (ih _ (by omega) (by omega)) ?_)
        rw [w64 (n := a + 1) (by omega) (by omega), w64 (n := a + 1 + (cSs l[j].f4 : Int)) (by omega) (by omega), w64 (by omega) (by omega)]
        refine (ih2 (j + 1) _ (by omega) (by omega) (by omega)).mono fun b hb => ?_
        omega
    refine EvP.step (fun k => spec_l11Count.f.eq_2 (k := k) ..) ((loop l.length 0 0 (by omega) (by omega) (by rw [List.drop_zero]; omega)).mono fun b hb => ?_)
    rw [List.drop_zero] at hb
    omega
theorem spec_StmtsValid_ev (l : List S37) (hl : cSs l ≤ 1000000000) : EvP (fun k => spec_StmtsValid.f k l) (· = okT 3 l) := by
  unfold spec_StmtsValid.f okT
  refine EvP.bindEq (spec_l11Blocks_ev l hl) (EvP.ite (fun h => EvP.bindEq (spec_l11Count_ev _ l hl (by omega)) (EvP.ret ?_)) (fun h => EvP.ret ?_))
  · rw [h, Bool.true_and]
    exact decide_eq_decide.mpr (by omega)
  · rw [Bool.eq_false_iff.mpr h]
    rfl
theorem okT_iff {boxes : Int} {l : List S37} : okT boxes l = true ↔ okL boxes 3 l = true ∧ cSs l ≤ 16 := by
 unfold okT
 rw [Bool.and_eq_true, decide_eq_true_eq]
theorem rdSS_nat (l : List (List S37)) (i : Nat) (h : i < l.length) : rd_L4 l (i : Int) = l[i] := by
 unfold rd_L4
 rw [Int.toNat_natCast, List.getD_eq_getElem?_getD, List.getElem?_eq_getElem h]
 rfl
def roomOk (r : Int) : Bool := decide (1 ≤ r) && decide (r ≤ 4)
def roomsOk (rs : List Int) : Bool := rs.all roomOk && decide ((rs.length : Int) ≤ 3)
theorem impl_rooms_l0 (rs : List Int) (hl : rs.length ≤ 1000000000) : ∀ (d j : Nat), j + d = rs.length → EvP (fun k => impl_roomsValid.l0 k rs rs (rs.length : Int) (j : Int)) (· = ((rs.drop j).all roomOk && decide ((rs.length : Int) ≤ 3))) := by
  intro d
  induction d with
  | zero =>
    intro j hj
    refine EvP.step (fun k => impl_roomsValid.l0.eq_2 (k := k) ..) (EvP.no (by omega) (EvP.ret ?_))
    rw [List.drop_eq_nil_of_le (by omega)]
    rfl
  | succ d ih =>
    intro j hj
    have hlt : j < rs.length := by omega
    refine EvP.step (fun k => impl_roomsValid.l0.eq_2 (k := k) ..) (EvP.yes (by omega) (EvP.yes (by omega) (EvP.yes (by omega) ?_)))
    rw [rd_nat rs j hlt, w64 (by omega) (by omega), List.drop_eq_getElem_cons hlt, List.all_cons]
    refine EvP.ite (fun h => EvP.ret ?_) (fun h => EvP.ite (fun h2 => EvP.ret ?_) (fun h2 => ?_))
    · have : roomOk rs[j] = false := by
        unfold roomOk
        rw [decide_eq_false (by omega)]
        rfl
      rw [this]
      rfl
    · have : roomOk rs[j] = false := by
        unfold roomOk
        rw [decide_eq_false (p := rs[j] ≤ 4) (by omega), Bool.and_false]
      rw [this]
      rfl
    · have : roomOk rs[j] = true := by
        unfold roomOk
        rw [decide_eq_true (by omega), decide_eq_true (by omega)]
        rfl
      rw [this, Bool.true_and]
      exact ih (j + 1) (by omega)
theorem impl_rooms_ev (rs : List Int) (hl : rs.length ≤ 1000000000) : EvP (fun k => impl_roomsValid.f k rs) (· = roomsOk rs) := by
  unfold impl_roomsValid.f
  exact impl_rooms_l0 rs hl rs.length 0 (by omega)
theorem spec_rooms_l0 (rs : List Int) (hl : rs.length ≤ 1000000000) : ∀ (d j : Nat), j + d = rs.length → EvP (fun k => spec_l12Rooms.l0 k rs (j : Int)) (· = ((rs.drop j).all roomOk && decide ((rs.length : Int) ≤ 3))) := by
  intro d
  induction d with
  | zero =>
    intro j hj
    refine EvP.step (fun k => spec_l12Rooms.l0.eq_2 (k := k) ..) (EvP.no (by omega) (EvP.ret ?_))
    rw [List.drop_eq_nil_of_le (by omega)]
    rfl
  | succ d ih =>
    intro j hj
    have hlt : j < rs.length := by omega
    refine EvP.step (fun k => spec_l12Rooms.l0.eq_2 (k := k) ..) (EvP.yes (by omega) (EvP.yes (by omega) ?_))
    rw [rd_nat rs j hlt, w64 (by omega) (by omega), List.drop_eq_getElem_cons hlt, List.all_cons, l6In_eq]
    refine EvP.bind0 rfl (EvP.ite (fun h => ?_) (fun h => EvP.ret ?_))
    · rw [show roomOk rs[j] = true from h, Bool.true_and]
      exact ih (j + 1) (by omega)
    · rw [show roomOk rs[j] = false from Bool.eq_false_iff.mpr h]
      rfl
theorem spec_rooms_ev (rs : List Int) (hl : rs.length ≤ 1000000000) : EvP (fun k => spec_l12Rooms.f k rs) (· = roomsOk rs) := by
  unfold spec_l12Rooms.f
  exact spec_rooms_l0 rs hl rs.length 0 (by omega)
def hasBox (m : Int) (s : S37) : Bool := !((s.f0 == 4 || s.f0 == 5) && decide (s.f2 ≥ m))
mutual
def bxS (m : Int) : S37 → Bool
 | ⟨a, b, c, e, l1, l2⟩ => hasBox m ⟨a, b, c, e, l1, l2⟩ && (bxSs m l1 && bxSs m l2)
def bxSs (m : Int) : List S37 → Bool
 | [] => true
 | x :: xs => bxS m x && bxSs m xs
end
theorem bxS_f (m : Int) (s : S37) : bxS m s = (hasBox m s && (bxSs m s.f4 && bxSs m s.f5)) := by
 cases s
 rw [bxS]
theorem bxSs_all (m : Int) : ∀ l : List S37, bxSs m l = l.all (bxS m)
 | [] => by rw [bxSs]; rfl
 | x :: xs => by rw [bxSs, bxSs_all m xs]; rfl
theorem spec_l12Boxes_ev (m : Int) : ∀ (c : Nat) (l : List S37), cSs l ≤ c → c ≤ 1000000000 → EvP (fun k => spec_l12Boxes.f k l m) (· = bxSs m l) := by
  intro c
  induction c with
  | zero =>
    intro l hl hc
    have := cSs_length l
    obtain rfl := List.eq_nil_of_length_eq_zero (show l.length = 0 by omega)
    exact EvP.step (fun k => spec_l12Boxes.f.eq_2 (k := k) ..) (EvP.step (fun k => spec_l12Boxes.l0.eq_2 (k := k) ..) (EvP.no (by simp) (EvP.ret (by rw [bxSs]))))
  | succ c ih =>
    intro l hl hc
    have hlen := cSs_length l
    have loop : ∀ (r j : Nat), j + r = l.length → EvP (fun k => spec_l12Boxes.l0 k l m (j : Int)) (· = bxSs m (l.drop j)) := by
      intro r
      induction r with
      | zero =>
        intro j hj
        refine EvP.step (fun k => spec_l12Boxes.l0.eq_2 (k := k) ..) (EvP.no (by omega) (EvP.ret ?_))
        rw [List.drop_eq_nil_of_le (by omega), bxSs]
      | succ r ih2 =>
        intro j hj
        have hlt : j < l.length := by omega
        have hm := cSs_mem l _ (List.getElem_mem hlt)
        have hcs := cS_f l[j]
        have hd : bxSs m (l.drop j) = (bxS m l[j] && bxSs m (l.drop (j + 1))) := by
          rw [List.drop_eq_getElem_cons hlt, bxSs]
        rw [hd, bxS_f]
        have j1 : ∀ b : Bool, (hasBox m l[j] = !b) → EvP (fun k => spec_l12Boxes.j1 k l m (j : Int) b l[j].f0 l[j].f1 l[j].f2 l[j].f3.f0 l[j].f3.f1 l[j].f3.f2 l[j].f4 l[j].f5) (· = (hasBox m l[j] && (bxSs m l[j].f4 && bxSs m l[j].f5) && bxSs m (l.drop (j + 1)))) := by
          intro b hb
          refine EvP.step (fun k => spec_l12Boxes.j1.eq_2 (k := k) ..) (EvP.ite (fun h => EvP.ret ?_) (fun h => ?_))
          · rw [hb, h]
            rfl
          · rw [hb, Bool.eq_false_iff.mpr h, w64 (n := (j : Int) + 1) (by omega) (by omega)]
            refine EvP.bindEq (ih _ (by omega) (by omega)) (EvP.ite (fun h4 => EvP.bindEq (ih _ (by omega) (by omega)) (EvP.ite (fun h5 => ?_) (fun h5 => EvP.ret ?_))) (fun h4 => EvP.ret ?_))
            · rw [h4, h5]
              exact ih2 (j + 1) (by omega)
            · rw [Bool.eq_false_iff.mpr h5]
              simp
            · rw [Bool.eq_false_iff.mpr h4]
              simp
        refine EvP.step (fun k => spec_l12Boxes.l0.eq_2 (k := k) ..) (EvP.yes (by omega) (EvP.yes (by omega) ?_))
        rw [rdS_nat l j hlt]
        refine EvP.ite (fun h4 => j1 _ ?_) (fun h4 => EvP.ite (fun h5 => j1 _ ?_) (fun h5 => j1 _ ?_))
        · simp [hasBox, h4]
        · simp [hasBox, h5]
        · simp [hasBox, h4, h5]
    refine EvP.step (fun k => spec_l12Boxes.f.eq_2 (k := k) ..) ?_
    exact loop l.length 0 (by omega)
theorem stS_boxes (m : Int) (h0 : 0 ≤ m) (h3 : m ≤ 3) (s : S37) : stS m s = (stS 3 s && hasBox m s) := by
 rw [Bool.eq_iff_iff, Bool.and_eq_true]
 unfold stS stOk restOk hasBox boxOk
 by_cases c4 : s.f0 = 4
 ·simp only [c4]
  simp
  constructor
  ·rintro ⟨a, ⟨b, c⟩, d⟩
   exact ⟨⟨a, ⟨b, by omega⟩, d⟩, by omega⟩
  ·rintro ⟨⟨a, ⟨b, c⟩, d⟩, e⟩
   exact ⟨a, ⟨b, by omega⟩, d⟩
 ·by_cases c5 : s.f0 = 5
  ·simp only [c5]
   simp
   constructor
   ·rintro ⟨a, ⟨b, c⟩, d⟩
    exact ⟨⟨a, ⟨b, by omega⟩, d⟩, by omega⟩
   ·rintro ⟨⟨a, ⟨b, c⟩, d⟩, e⟩
    exact ⟨a, ⟨b, by omega⟩, d⟩
  ·simp [c4, c5]
theorem okOne_boxes (m : Int) (h0 : 0 ≤ m) (h3 : m ≤ 3) : ∀ (d : Nat) (s : S37), okOne m d s = true ↔ (okOne 3 d s = true ∧ bxS m s = true)
 | 0, s => by
  simp only [okOne, Bool.and_eq_true, stS_boxes m h0 h3 s, bxS_f]
  constructor
  ·rintro ⟨⟨a, b⟩, c⟩
   have hf := flat_cS a (fun e => by rw [(isBlk_iff s).mpr e] at c; cases c)
   rw [cS_f] at hf
   have l4 := cSs_length s.f4
   have l5 := cSs_length s.f5
   rw [List.eq_nil_of_length_eq_zero (show s.f4.length = 0 by omega), List.eq_nil_of_length_eq_zero (show s.f5.length = 0 by omega)]
   exact ⟨⟨a, c⟩, b, by rw [bxSs], by rw [bxSs]⟩
  ·rintro ⟨⟨a, c⟩, b, _⟩
   exact ⟨⟨a, b⟩, c⟩
 | d + 1, s => by
  have ih : ∀ l : List S37, l.all (okOne m d) = true ↔ (l.all (okOne 3 d) = true ∧ bxSs m l = true) := by
   intro l
   rw [bxSs_all, List.all_eq_true, List.all_eq_true, List.all_eq_true]
   constructor
   ·exact fun h => ⟨fun x hx => ((okOne_boxes m h0 h3 d x).mp (h x hx)).1, fun x hx => ((okOne_boxes m h0 h3 d x).mp (h x hx)).2⟩
   ·exact fun h x hx => (okOne_boxes m h0 h3 d x).mpr ⟨h.1 x hx, h.2 x hx⟩
  simp only [okOne, Bool.and_eq_true, Bool.or_eq_true, stS_boxes m h0 h3 s, bxS_f, ih]
  cases hb : isBlk s with
  | true =>
   simp only [Bool.not_true, Bool.false_eq_true, false_or]
   constructor
   ·rintro ⟨⟨a, b⟩, ⟨c1, c2⟩, d1, d2⟩
    exact ⟨⟨a, c1, d1⟩, b, c2, d2⟩
   ·rintro ⟨⟨a, c1, d1⟩, b, c2, d2⟩
    exact ⟨⟨a, b⟩, ⟨c1, c2⟩, d1, d2⟩
  | false =>
   simp only [Bool.not_false, true_or, and_true]
   constructor
   ·rintro ⟨a, b⟩
    have hf := flat_cS a (fun e => by rw [(isBlk_iff s).mpr e] at hb; cases hb)
    rw [cS_f] at hf
    have l4 := cSs_length s.f4
    have l5 := cSs_length s.f5
    rw [List.eq_nil_of_length_eq_zero (show s.f4.length = 0 by omega), List.eq_nil_of_length_eq_zero (show s.f5.length = 0 by omega)]
    exact ⟨a, b, by rw [bxSs], by rw [bxSs]⟩
   ·rintro ⟨a, b, _⟩
    exact ⟨a, b⟩
theorem okT_boxes (m : Int) (h0 : 0 ≤ m) (h3 : m ≤ 3) (l : List S37) : okT m l = (okT 3 l && bxSs m l) := by
 rw [Bool.eq_iff_iff, Bool.and_eq_true, okT_iff, okT_iff, bxSs_all]
 unfold okL
 rw [List.all_eq_true, List.all_eq_true, List.all_eq_true]
 constructor
 ·exact fun h => ⟨⟨fun x hx => ((okOne_boxes m h0 h3 3 x).mp (h.1 x hx)).1, h.2⟩, fun x hx => ((okOne_boxes m h0 h3 3 x).mp (h.1 x hx)).2⟩
 ·exact fun h => ⟨fun x hx => (okOne_boxes m h0 h3 3 x).mpr ⟨h.1.1 x hx, h.2 x hx⟩, h.1.2⟩
def progOk (rs : List Int) (ts : List (List S37)) : Bool := roomsOk rs && (decide (1 ≤ ts.length) && decide (ts.length ≤ 3) && ts.all (okT (rs.length : Int)))
theorem rooms_len {rs : List Int} (h : roomsOk rs = true) : (0 : Int) ≤ rs.length ∧ (rs.length : Int) ≤ 3 := by
 unfold roomsOk at h
 rw [Bool.and_eq_true, decide_eq_true_eq] at h
 exact ⟨by omega, h.2⟩
def Smalls (ts : List (List S37)) : Prop := ts.length ≤ 1000000000 ∧ ∀ t ∈ ts, cSs t ≤ 1000000000
theorem impl_ProgramValid_ev (rs : List Int) (ts : List (List S37)) (hr : rs.length ≤ 1000000000) (ht : Smalls ts) : EvP (fun k => impl_ProgramValid.f k rs ts) (· = progOk rs ts) := by
  obtain ⟨hl, ht⟩ := ht
  have loop : roomsOk rs = true → ∀ (d j : Nat), j + d = ts.length → EvP (fun k => impl_ProgramValid.l0 k ts (ts.length : Int) (j : Int) rs ts) (· = (ts.drop j).all (okT (rs.length : Int))) := by
    intro hro d
    induction d with
    | zero =>
      intro j hj
      refine EvP.step (fun k => impl_ProgramValid.l0.eq_2 (k := k) ..) (EvP.no (by omega) (EvP.ret ?_))
      rw [List.drop_eq_nil_of_le (by omega)]
      rfl
    | succ d ih =>
      intro j hj
      have hlt : j < ts.length := by omega
      refine EvP.step (fun k => impl_ProgramValid.l0.eq_2 (k := k) ..) (EvP.yes (by omega) (EvP.yes (by omega) (EvP.yes (by omega) ?_)))
      rw [rdSS_nat ts j hlt, w64 (by omega) (by omega), List.drop_eq_getElem_cons hlt, List.all_cons]
      refine EvP.bindEq (impl_stmtsValid_ev _ _ (ht _ (List.getElem_mem hlt))) (EvP.ite (fun h => ?_) (fun h => EvP.ret ?_))
      · rw [h, Bool.true_and]
        exact ih (j + 1) (by omega)
      · rw [Bool.eq_false_iff.mpr h]
        rfl
  have j0 : ∀ b : Bool, (b = false → roomsOk rs = true ∧ 1 ≤ ts.length ∧ ts.length ≤ 3) → (b = true → progOk rs ts = false) → EvP (fun k => impl_ProgramValid.j0 k b rs ts) (· = progOk rs ts) := by
    intro b h1 h2
    refine EvP.step (fun k => impl_ProgramValid.j0.eq_2 (k := k) ..) (EvP.ite (fun h => EvP.ret (h2 h).symm) (fun h => ?_))
    obtain ⟨g1, g2, g3⟩ := h1 (Bool.eq_false_iff.mpr h)
    unfold progOk
    rw [g1, decide_eq_true g2, decide_eq_true g3]
    exact loop g1 ts.length 0 (by omega)
  unfold impl_ProgramValid.f
  refine EvP.bindEq (impl_rooms_ev rs hr) (EvP.ite (fun h => EvP.ite (fun h1 => j0 true (fun e => by cases e) (fun _ => ?_)) (fun h1 => j0 _ (fun e => ?_) (fun e => ?_))) (fun h => j0 true (fun e => by cases e) (fun _ => ?_)))
  · unfold progOk
    rw [decide_eq_false (by omega)]
    simp
  · have := of_decide_eq_false e
    exact ⟨h, by omega, by omega⟩
  · have := of_decide_eq_true e
    unfold progOk
    rw [decide_eq_false (p := ts.length ≤ 3) (by omega)]
    simp
  · unfold progOk
    rw [Bool.eq_false_iff.mpr h]
    rfl
theorem spec_ProgramValid_ev (rs : List Int) (ts : List (List S37)) (hr : rs.length ≤ 1000000000) (ht : Smalls ts) : EvP (fun k => spec_ProgramValid.f k rs ts) (· = progOk rs ts) := by
  obtain ⟨hl, ht⟩ := ht
  have loop : roomsOk rs = true → ∀ (d j : Nat), j + d = ts.length → EvP (fun k => spec_ProgramValid.l0 k (j : Int) rs ts) (· = (ts.drop j).all (okT (rs.length : Int))) := by
    intro hro d
    obtain ⟨r0, r3⟩ := rooms_len hro
    induction d with
    | zero =>
      intro j hj
      refine EvP.step (fun k => spec_ProgramValid.l0.eq_2 (k := k) ..) (EvP.no (by omega) (EvP.ret ?_))
      rw [List.drop_eq_nil_of_le (by omega)]
      rfl
    | succ d ih =>
      intro j hj
      have hlt : j < ts.length := by omega
      refine EvP.step (fun k => spec_ProgramValid.l0.eq_2 (k := k) ..) (EvP.yes (by omega) (EvP.yes (by omega) ?_))
      rw [rdSS_nat ts j hlt, w64 (by omega) (by omega), List.drop_eq_getElem_cons hlt, List.all_cons, okT_boxes _ r0 r3]
      refine EvP.bindEq (spec_StmtsValid_ev _ (ht _ (List.getElem_mem hlt))) (EvP.ite (fun h => EvP.bindEq (spec_l12Boxes_ev _ _ _ (ht _ (List.getElem_mem hlt)) (by omega)) (EvP.ite (fun h2 => ?_) (fun h2 => EvP.ret ?_))) (fun h => EvP.ret ?_))
      · rw [h, h2, Bool.true_and, Bool.true_and]
        exact ih (j + 1) (by omega)
      · rw [h, Bool.eq_false_iff.mpr h2]
        rfl
      · rw [Bool.eq_false_iff.mpr h]
        rfl
  have j0 : ∀ b : Bool, (b = false → roomsOk rs = true ∧ 1 ≤ ts.length ∧ ts.length ≤ 3) → (b = true → progOk rs ts = false) → EvP (fun k => spec_ProgramValid.j0 k b rs ts) (· = progOk rs ts) := by
    intro b h1 h2
    refine EvP.step (fun k => spec_ProgramValid.j0.eq_2 (k := k) ..) (EvP.ite (fun h => EvP.ret (h2 h).symm) (fun h => ?_))
    obtain ⟨g1, g2, g3⟩ := h1 (Bool.eq_false_iff.mpr h)
    unfold progOk
    rw [g1, decide_eq_true g2, decide_eq_true g3]
    exact loop g1 ts.length 0 (by omega)
  unfold spec_ProgramValid.f
  refine EvP.bindEq (spec_rooms_ev rs hr) (EvP.ite (fun h => ?_) (fun h => j0 true (fun e => by cases e) (fun _ => ?_)))
  · rw [l6In_eq]
    refine EvP.bind0 rfl (j0 _ (fun e => ?_) (fun e => ?_))
    · rw [Bool.not_eq_false', Bool.and_eq_true, decide_eq_true_eq, decide_eq_true_eq] at e
      exact ⟨h, by omega, by omega⟩
    · unfold progOk
      have e2 : (decide (1 ≤ ts.length) && decide (ts.length ≤ 3)) = false := by
        rw [Bool.eq_false_iff]
        intro q
        rw [Bool.and_eq_true, decide_eq_true_eq, decide_eq_true_eq] at q
        rw [decide_eq_true (by omega), decide_eq_true (by omega)] at e
        cases e
      rw [e2]
      simp
  · unfold progOk
    rw [Bool.eq_false_iff.mpr h]
    rfl
theorem progOk_iff {rs : List Int} {ts : List (List S37)} : progOk rs ts = true ↔ roomsOk rs = true ∧ 1 ≤ ts.length ∧ ts.length ≤ 3 ∧ ∀ t ∈ ts, okT (rs.length : Int) t = true := by
 unfold progOk
 simp only [Bool.and_eq_true, decide_eq_true_eq, List.all_eq_true, and_assoc]
mutual
def lpS : S37 → Bool
 | ⟨a, _, _, _, l1, l2⟩ => a == 3 || (lpSs l1 || lpSs l2)
def lpSs : List S37 → Bool
 | [] => false
 | x :: xs => lpS x || lpSs xs
end
theorem lpS_f (s : S37) : lpS s = (s.f0 == 3 || (lpSs s.f4 || lpSs s.f5)) := by
 cases s
 rw [lpS]
theorem hasLoop_ev : ∀ (c : Nat) (l : List S37), cSs l ≤ c → c ≤ 1000000000 → EvP (fun k => impl_hasLoop.f k l) (· = lpSs l) := by
  intro c
  induction c with
  | zero =>
    intro l hl hc
    have := cSs_length l
    obtain rfl := List.eq_nil_of_length_eq_zero (show l.length = 0 by omega)
    exact EvP.step (fun k => impl_hasLoop.f.eq_2 (k := k) ..) (EvP.step (fun k => impl_hasLoop.l0.eq_2 (k := k) ..) (EvP.no (by simp) (EvP.ret (by rw [lpSs]))))
  | succ c ih =>
    intro l hl hc
    have hlen := cSs_length l
    have loop : ∀ (r j : Nat), j + r = l.length → EvP (fun k => impl_hasLoop.l0 k l (j : Int)) (· = lpSs (l.drop j)) := by
      intro r
      induction r with
      | zero =>
        intro j hj
        refine EvP.step (fun k => impl_hasLoop.l0.eq_2 (k := k) ..) (EvP.no (by omega) (EvP.ret ?_))
        rw [List.drop_eq_nil_of_le (by omega), lpSs]
      | succ r ih2 =>
        intro j hj
        have hlt : j < l.length := by omega
        have hm := cSs_mem l _ (List.getElem_mem hlt)
        have hcs := cS_f l[j]
        have one : EvP (fun k => impl_hasLoop.one k l[j]) (· = lpS l[j]) := by
          rw [lpS_f]
          refine EvP.step (fun k => impl_hasLoop.one.eq_2 (k := k) ..) (EvP.ite (fun h => EvP.ret (by rw [beq_iff_eq.mpr h]; rfl)) (fun h => ?_))
          rw [beq_eq_false_iff_ne.mpr h, Bool.false_or]
          refine EvP.bindEq (ih _ (by omega) (by omega)) (EvP.ite (fun h4 => EvP.ret (by rw [h4]; rfl)) (fun h4 => ?_))
          rw [Bool.eq_false_iff.mpr h4, Bool.false_or]
          exact ih _ (by omega) (by omega)
        refine EvP.step (fun k => impl_hasLoop.l0.eq_2 (k := k) ..) (EvP.yes (by omega) (EvP.yes (by omega) ?_))
        rw [rdS_nat l j hlt, w64 (n := (j : Int) + 1) (by omega) (by omega), List.drop_eq_getElem_cons hlt, lpSs]
        refine EvP.bindEq one (EvP.ite (fun h => EvP.ret (by rw [h]; rfl)) (fun h => ?_))
        rw [Bool.eq_false_iff.mpr h, Bool.false_or]
        exact ih2 (j + 1) (by omega)
    exact EvP.step (fun k => impl_hasLoop.f.eq_2 (k := k) ..) (loop l.length 0 (by omega))
theorem l12Plain_ev : ∀ (c : Nat) (l : List S37), cSs l ≤ c → c ≤ 1000000000 → EvP (fun k => spec_l12Plain.f k l) (· = !lpSs l) := by
  intro c
  induction c with
  | zero =>
    intro l hl hc
    have := cSs_length l
    obtain rfl := List.eq_nil_of_length_eq_zero (show l.length = 0 by omega)
    exact EvP.step (fun k => spec_l12Plain.f.eq_2 (k := k) ..) (EvP.step (fun k => spec_l12Plain.l0.eq_2 (k := k) ..) (EvP.no (by simp) (EvP.ret (by rw [lpSs]; rfl))))
  | succ c ih =>
    intro l hl hc
    have hlen := cSs_length l
    have loop : ∀ (r j : Nat), j + r = l.length → EvP (fun k => spec_l12Plain.l0 k l (j : Int)) (· = !lpSs (l.drop j)) := by
      intro r
      induction r with
      | zero =>
        intro j hj
        refine EvP.step (fun k => spec_l12Plain.l0.eq_2 (k := k) ..) (EvP.no (by omega) (EvP.ret ?_))
        rw [List.drop_eq_nil_of_le (by omega), lpSs]
        rfl
      | succ r ih2 =>
        intro j hj
        have hlt : j < l.length := by omega
        have hm := cSs_mem l _ (List.getElem_mem hlt)
        have hcs := cS_f l[j]
        refine EvP.step (fun k => spec_l12Plain.l0.eq_2 (k := k) ..) (EvP.yes (by omega) (EvP.yes (by omega) ?_))
        rw [rdS_nat l j hlt, w64 (n := (j : Int) + 1) (by omega) (by omega), List.drop_eq_getElem_cons hlt, lpSs, lpS_f]
        refine EvP.ite (fun h => EvP.ret (by rw [beq_iff_eq.mpr h]; rfl)) (fun h => ?_)
        rw [beq_eq_false_iff_ne.mpr h, Bool.false_or]
        refine EvP.bindEq (ih _ (by omega) (by omega)) (EvP.ite (fun h4 => ?_) (fun h4 => EvP.ret ?_))
        · rw [Bool.not_eq_true'] at h4
          rw [h4, Bool.false_or]
          refine EvP.bindEq (ih _ (by omega) (by omega)) (EvP.ite (fun h5 => ?_) (fun h5 => EvP.ret ?_))
          · rw [Bool.not_eq_true'] at h5
            rw [h5, Bool.false_or]
            exact ih2 (j + 1) (by omega)
          · rw [Bool.not_eq_true, Bool.not_eq_false'] at h5
            rw [h5]
            rfl
        · rw [Bool.not_eq_true, Bool.not_eq_false'] at h4
          rw [h4]
          rfl
    exact EvP.step (fun k => spec_l12Plain.f.eq_2 (k := k) ..) (loop l.length 0 (by omega))
def plainP (rs : List Int) (ts : List (List S37)) : Bool := progOk rs ts && !(ts.any lpSs)
theorem impl_ProgramPlain_ev (rs : List Int) (ts : List (List S37)) (hr : rs.length ≤ 1000000000) (ht : Smalls ts) : EvP (fun k => impl_ProgramPlain.f k rs ts) (· = plainP rs ts) := by
  have loop : ∀ (d j : Nat), j + d = ts.length → EvP (fun k => impl_anyLoop.l0 k ts (j : Int)) (· = (ts.drop j).any lpSs) := by
    obtain ⟨hl, ht⟩ := ht
    intro d
    induction d with
    | zero =>
      intro j hj
      refine EvP.step (fun k => impl_anyLoop.l0.eq_2 (k := k) ..) (EvP.no (by omega) (EvP.ret ?_))
      rw [List.drop_eq_nil_of_le (by omega)]
      rfl
    | succ d ih =>
      intro j hj
      have hlt : j < ts.length := by omega
      refine EvP.step (fun k => impl_anyLoop.l0.eq_2 (k := k) ..) (EvP.yes (by omega) (EvP.yes (by omega) ?_))
      rw [rdSS_nat ts j hlt, w64 (by omega) (by omega), List.drop_eq_getElem_cons hlt, List.any_cons]
      refine EvP.bindEq (hasLoop_ev _ _ (ht _ (List.getElem_mem hlt)) (by omega)) (EvP.ite (fun h => EvP.ret (by rw [h]; rfl)) (fun h => ?_))
      rw [Bool.eq_false_iff.mpr h, Bool.false_or]
      exact ih (j + 1) (by omega)
  unfold impl_ProgramPlain.f plainP
  refine EvP.bindEq (impl_ProgramValid_ev rs ts hr ht) (EvP.ite (fun h => ?_) (fun h => EvP.ret (by rw [Bool.eq_false_iff.mpr h]; rfl)))
  refine EvP.bindEq (loop ts.length 0 (by omega)) (EvP.ret ?_)
  rw [h, List.drop_zero]
  rfl
theorem spec_ProgramPlain_ev (rs : List Int) (ts : List (List S37)) (hr : rs.length ≤ 1000000000) (ht : Smalls ts) : EvP (fun k => spec_ProgramPlain.f k rs ts) (· = plainP rs ts) := by
  have loop : ∀ (d j : Nat), j + d = ts.length → EvP (fun k => spec_ProgramPlain.l0 k (j : Int) rs ts) (· = !((ts.drop j).any lpSs)) := by
    obtain ⟨hl, ht⟩ := ht
    intro d
    induction d with
    | zero =>
      intro j hj
      refine EvP.step (fun k => spec_ProgramPlain.l0.eq_2 (k := k) ..) (EvP.no (by omega) (EvP.ret ?_))
      rw [List.drop_eq_nil_of_le (by omega)]
      rfl
    | succ d ih =>
      intro j hj
      have hlt : j < ts.length := by omega
      refine EvP.step (fun k => spec_ProgramPlain.l0.eq_2 (k := k) ..) (EvP.yes (by omega) (EvP.yes (by omega) ?_))
      rw [rdSS_nat ts j hlt, w64 (by omega) (by omega), List.drop_eq_getElem_cons hlt, List.any_cons]
      refine EvP.bindEq (l12Plain_ev _ _ (ht _ (List.getElem_mem hlt)) (by omega)) (EvP.ite (fun h => ?_) (fun h => EvP.ret ?_))
      · rw [Bool.not_eq_true'] at h
        rw [h, Bool.false_or]
        exact ih (j + 1) (by omega)
      · rw [Bool.not_eq_true, Bool.not_eq_false'] at h
        rw [h]
        rfl
  unfold spec_ProgramPlain.f plainP
  refine EvP.bindEq (spec_ProgramValid_ev rs ts hr ht) (EvP.ite (fun h => ?_) (fun h => EvP.ret (by rw [Bool.eq_false_iff.mpr h]; rfl)))
  rw [h, Bool.true_and]
  exact loop ts.length 0 (by omega)
end Go.Proofs.Ytpcbfcaacilghaa.PA

namespace Go.Proofs.Ytpcbfcaacilghaa.PA
open Go.RowKit Go.Proofs.YtpcbfcaacilghaaW.PrintWords Go.Proofs.Ytpcbfcaacilghaa.Core
theorem xor_nonneg (x y : Int) (hx : 0 ≤ x) (hx1 : x < 4611686018427387904) (hy : 0 ≤ y) (hy1 : y < 4611686018427387904) : 0 ≤ Go.bits .xor .i64 x y := by
 obtain ⟨a, rfl⟩ := Int.eq_ofNat_of_zero_le hx
 obtain ⟨b, rfl⟩ := Int.eq_ofNat_of_zero_le hy
 have ha : a < 2 ^ 62 := by omega
 have hb : b < 2 ^ 62 := by omega
 have hx := Nat.xor_lt_two_pow ha hb
 simp only [Go.bits, BitVec.ofInt_natCast, BitVec.toNat_xor, BitVec.toNat_ofNat]
 rw [show IntKind.i64.bits = 64 from rfl, Nat.mod_eq_of_lt (a := a) (by omega), Nat.mod_eq_of_lt (a := b) (by omega), IntKind.wrap_i64]
 omega
def Bytes (b : List Int) : Prop := b.length ≤ 2000 ∧ ∀ x ∈ b, 0 ≤ x ∧ x ≤ 255
theorem Bytes.rd {b : List Int} (h : Bytes b) (i : Int) (h0 : 0 ≤ i) (h1 : i < b.length) : 0 ≤ Go.Proofs.YtpcbfcaacilghaaW.PrintWords.rd b i ∧ Go.Proofs.YtpcbfcaacilghaaW.PrintWords.rd b i ≤ 255 := h.2 _ (rd_mem b i h0 h1)
theorem open_bytes (l : List Int) (hl : l.length ≤ 140737488351232) (hw : ∀ x ∈ l, (Lit.int .u8 x).wf = true) : ∃ b, spec_l6Open.f l = some (b, 0) ∧ Bytes b := by
 have hb : ∀ x ∈ l, 0 ≤ x ∧ x ≤ 255 := by
  intro x hx
  have h := hw x hx
  simp only [Lit.wf, Bool.and_eq_true, decide_eq_true_eq] at h
  have e1 : IntKind.u8.min = 0 := by decide
  have e2 : IntKind.u8.max = 255 := by decide
  omega
 unfold spec_l6Open.f
 by_cases h : (l.length : Int) > 2000
 ·rw [if_pos h, if_pos (by omega)]
  exact ⟨_, rfl, by rw [List.length_take]; omega, fun x hx => hb x (List.mem_of_mem_take hx)⟩
 ·rw [if_neg h]
  exact ⟨_, rfl, by omega, hb⟩
def Picked (p n : Int) (r : Int × Int) : Prop := r.2 = p + 1 ∧ 0 ≤ r.1 ∧ (1 ≤ n → r.1 < n) ∧ (n < 1 → r.1 = 0)
theorem pick_ev (b : List Int) (hb : Bytes b) (p n : Int) (h0 : 0 ≤ p) (h1 : p ≤ 1000000000000) : EvP (fun k => spec_l6Rd_pick.f k b p n) (Picked p n) := by
 unfold spec_l6Rd_pick.f
 rw [w64 (n := p + 1) (by omega) (by omega)]
 have hz : EvP (fun k => spec_l6Rd_pick.j0 k n true b (p + 1)) (fun r => r.2 = p + 1 ∧ r.1 = 0) :=
  EvP.step (fun k => spec_l6Rd_pick.j0.eq_2 (k := k) ..) (EvP.yes rfl (EvP.ret ⟨rfl, rfl⟩))
 refine EvP.ite (fun h => ?_) (fun h => ?_)
 ·exact hz.mono fun r hr => ⟨hr.1, by omega, fun _ => by omega, fun _ => hr.2⟩
 ·cases hl : ((b.length : Int) == 0) with
  | true => exact hz.mono fun r hr => ⟨hr.1, by omega, fun _ => by omega, fun _ => hr.2⟩
  | false =>
   have hl' : (b.length : Int) ≠ 0 := by simpa using hl
   have hbl := hb.1
   refine EvP.step (fun k => spec_l6Rd_pick.j0.eq_2 (k := k) ..) (EvP.no (by decide) ?_)
   rw [w64 (n := p + 1 - 1) (by omega) (by omega), show p + 1 - 1 = p by omega]
   refine EvP.ite (fun h2 => ?_) (fun h2 => ?_)
   ·refine EvP.yes h0 (EvP.no (by omega) (EvP.ret ?_))
    have hr := hb.rd p h0 h2
    rw [w64 (by omega) (by omega)]
    have ht := tm_range hr.1 (show 0 < n by omega)
    exact ⟨rfl, ht.1, fun _ => ht.2, fun _ => by omega⟩
   ·have t1 := tm_range h0 (show (0 : Int) < b.length by omega)
    have t2 := tm_range (show 0 ≤ p * 7 + 3 by omega) (show (0 : Int) < b.length by omega)
    rw [w64 (n := p * 7) (by omega) (by omega), w64 (n := p * 7 + 3) (by omega) (by omega)]
    refine EvP.no hl' (EvP.yes t1.1 (EvP.yes t1.2 (EvP.yes t2.1 (EvP.yes t2.2 (EvP.no (by omega) (EvP.ret ?_))))))
    have r1 := hb.rd _ t1.1 t1.2
    have r2 := hb.rd _ t2.1 t2.2
    have hd0 : 0 ≤ Int.tdiv p b.length := Int.tdiv_nonneg h0 (by omega)
    have hd1 : Int.tdiv p b.length ≤ p := by
     rw [Int.tdiv_eq_ediv_of_nonneg h0]
     exact Int.ediv_le_self _ h0
    generalize Go.Proofs.YtpcbfcaacilghaaW.PrintWords.rd b (Int.tmod p b.length) = x1 at *
    generalize Go.Proofs.YtpcbfcaacilghaaW.PrintWords.rd b (Int.tmod (p * 7 + 3) b.length) = x2 at *
    generalize Int.tdiv p b.length = q at *
    simp only [w64 (n := x1) (by omega) (by omega), w64 (n := x2) (by omega) (by omega), w64 (n := q) (by omega) (by omega)]
    simp only [w64 (n := x1 * 131) (by omega) (by omega), w64 (n := x2 * 1117) (by omega) (by omega), w64 (n := p * 29) (by omega) (by omega), w64 (n := q * 53) (by omega) (by omega)]
    simp only [w64 (n := x1 * 131 + x2 * 1117) (by omega) (by omega)]
    simp only [w64 (n := x1 * 131 + x2 * 1117 + p * 29) (by omega) (by omega)]
    simp only [w64 (n := x1 * 131 + x2 * 1117 + p * 29 + q * 53) (by omega) (by omega)]
    have hs0 : 0 ≤ x1 * 131 + x2 * 1117 + p * 29 + q * 53 := by omega
    have hs1 : x1 * 131 + x2 * 1117 + p * 29 + q * 53 < 1000000000000000 := by omega
    generalize x1 * 131 + x2 * 1117 + p * 29 + q * 53 = s at *
    have hv0 : 0 ≤ Int.tdiv s 64 := Int.tdiv_nonneg hs0 (by omega)
    have hv1 : Int.tdiv s 64 ≤ s := by
     rw [Int.tdiv_eq_ediv_of_nonneg hs0]
     exact Int.ediv_le_self _ hs0
    rw [w64 (n := Int.tdiv s 64) (by omega) (by omega)]
    have hx := xor_nonneg s (Int.tdiv s 64) hs0 (by omega) hv0 (by omega)
    have ht := tm_range hx (show 0 < n by omega)
    exact ⟨rfl, ht.1, fun _ => ht.2, fun _ => by omega⟩
theorem pick_then {β : Type} {b : List Int} (hb : Bytes b) {p n : Int} (h0 : 0 ≤ p) (h1 : p ≤ 1000000000000) {f : Nat → Int × Int → Option β} {R : β → Prop}
  (k : ∀ v, 0 ≤ v → (1 ≤ n → v < n) → (n < 1 → v = 0) → EvP (fun m => f m (v, p + 1)) R) : EvP (fun m => (spec_l6Rd_pick.f m b p n).bind (f m)) R :=
 EvP.bind (pick_ev b hb p n h0 h1) (fun r hr => by
  obtain ⟨v, q⟩ := r
  obtain ⟨e, k0, k1, k2⟩ := hr
  obtain rfl : q = p + 1 := e
  exact k v k0 k1 k2)
theorem l91Op_ev (b : List Int) (hb : Bytes b) (p : Int) (h0 : 0 ≤ p) (h1 : p ≤ 900000000000) : EvP (fun k => spec_l91Op.f k b p) (fun r => r.2 = p + 1 ∧ 1 ≤ r.1 ∧ r.1 ≤ 12) := by
 unfold spec_l91Op.f
 refine pick_then hb h0 (by omega) fun v v0 v1 _ => ?_
 have := v1 (by omega)
 dsimp only
 rw [w64 (by omega) (by omega)]
 exact EvP.ret (by dsimp only; omega)
theorem l91Leaf_ev (b : List Int) (hb : Bytes b) (p : Int) (h0 : 0 ≤ p) (h1 : p ≤ 900000000000) : EvP (fun k => spec_l91Leaf.f k b p) (fun r => p ≤ r.2.2.2 ∧ r.2.2.2 ≤ p + 2 ∧ r.2.2.1.length = 0) := by
 unfold spec_l91Leaf.f
 refine pick_then hb h0 (by omega) fun v v0 v1 _ => ?_
 dsimp only
 refine EvP.ite (fun h => ?_) (fun h => ?_)
 ·refine pick_then hb (by omega) (by omega) fun v2 w0 w1 _ => ?_
  exact EvP.bind0 rfl (EvP.ret (by simp; omega))
 ·refine EvP.ite (fun h => ?_) (fun h => ?_)
  ·refine EvP.bind0 rfl (pick_then hb (by omega) (by omega) fun v2 w0 w1 _ => ?_)
   have := w1 (by omega)
   exact EvP.yes w0 (EvP.yes (by simp; omega) (EvP.bind0 rfl (EvP.ret (by simp; omega))))
  ·refine pick_then hb (by omega) (by omega) fun v2 w0 w1 _ => ?_
   exact EvP.bind0 rfl (EvP.ret (by simp; omega))
theorem l91Expr_ev (b : List Int) (hb : Bytes b) : ∀ (d : Nat) (p : Int), d ≤ 10 → 0 ≤ p → p + 4 ^ (d + 1) ≤ 800000000000 → EvP (fun k => spec_l91Expr.f k b p (d : Int)) (fun r => p ≤ r.2.2.2 ∧ r.2.2.2 ≤ p + 4 ^ (d + 1) ∧ r.2.2.1.length ≤ 2) := by
 intro d
 have leaf : ∀ (d' : Int) (q : Int) (p : Int) (m : Nat), 0 ≤ q → q ≤ 800000000000 → p ≤ q → q + 2 ≤ p + 4 ^ (m + 1) → EvP (fun k => spec_l91Expr.j0 k d' true b q) (fun r => p ≤ r.2.2.2 ∧ r.2.2.2 ≤ p + 4 ^ (m + 1) ∧ r.2.2.1.length ≤ 2) := by
  intro d' q p m h0 h1 h2 h3
  refine EvP.step (fun k => spec_l91Expr.j0.eq_2 (k := k) ..) (EvP.yes rfl ?_)
  refine EvP.bind (l91Leaf_ev b hb q h0 (by omega)) fun r hr => ?_
  exact EvP.ret (by dsimp only; omega)
 induction d with
 | zero =>
  intro p hd h0 h1
  refine EvP.step (fun k => spec_l91Expr.f.eq_2 (k := k) ..) (EvP.yes (by omega) ?_)
  exact leaf _ p p 0 h0 (by omega) (by omega) (by omega)
 | succ d ih =>
  intro p hd h0 h1
  have h4 : (4 : Int) ^ (d + 1 + 1) = 4 * 4 ^ (d + 1) := by rw [Int.pow_succ, Int.mul_comm]
  have h5 : (4 : Int) ≤ 4 ^ (d + 1) := by
   have : 0 < (4 : Int) ^ d := Int.pow_pos (by omega)
   rw [Int.pow_succ]
   omega
  refine EvP.step (fun k => spec_l91Expr.f.eq_2 (k := k) ..) (EvP.ite (fun h => ?_) (fun h => ?_))
  ·exact leaf _ p p (d + 1) h0 (by omega) (by omega) (by omega)
  ·refine pick_then hb h0 (by omega) fun v v0 v1 _ => ?_
   dsimp only
   cases hv : (v == 0) with
   | true => exact leaf _ (p + 1) p (d + 1) (by omega) (by omega) (by omega) (by omega)
   | false =>
    refine EvP.step (fun k => spec_l91Expr.j0.eq_2 (k := k) ..) (EvP.no (by simp) ?_)
    rw [w64 (by omega) (by omega), show ((d + 1 : Nat) : Int) - 1 = (d : Int) by omega]
    refine EvP.bind (l91Op_ev b hb (p + 1) (by omega) (by omega)) fun r hr => ?_
    refine EvP.bind (ih r.2 (by omega) (by omega) (by omega)) fun s hs => ?_
    refine EvP.bind (ih s.2.2.2 (by omega) (by omega) (by omega)) fun u hu => ?_
    exact EvP.bind0 rfl (EvP.ret (by simp; omega))
theorem l91Expr_ev' (b : List Int) (hb : Bytes b) (d : Int) (p : Int) (hd0 : 0 ≤ d) (hd : d ≤ 5) (h0 : 0 ≤ p) (h1 : p ≤ 700000000000) : EvP (fun k => spec_l91Expr.f k b p d) (fun r => p ≤ r.2.2.2 ∧ r.2.2.2 ≤ p + 4096 ∧ r.2.2.1.length ≤ 2) := by
 have hp : (4 : Int) ^ (d.toNat + 1) ≤ 4096 := by
  have : d.toNat ≤ 5 := by omega
  have h2 : 4 ^ (d.toNat + 1) ≤ 4 ^ 6 := Nat.pow_le_pow_right (by omega) (by omega)
  have h3 : ((4 ^ (d.toNat + 1) : Nat) : Int) ≤ 4096 := by omega
  rw [Int.natCast_pow] at h3
  exact h3
 have h := l91Expr_ev b hb d.toNat p (by omega) h0 (by omega)
 rw [Int.toNat_of_nonneg hd0] at h
 exact h.mono fun r hr => by omega
def cB : Nat → Nat
 | 0 => 1
 | d + 1 => 4 * cB d + 3
def pB : Nat → Nat
 | 0 => 5000
 | d + 1 => 4 * pB d + 5000
theorem cB_le {d : Nat} (h : d ≤ 3) : 1 ≤ cB d ∧ cB d ≤ 127 := by
 match d, h with
 | 0, _ => decide
 | 1, _ => decide
 | 2, _ => decide
 | 3, _ => decide
theorem pB_le {d : Nat} (h : d ≤ 3) : 5000 ≤ pB d ∧ pB d ≤ 425000 := by
 match d, h with
 | 0, _ => decide
 | 1, _ => decide
 | 2, _ => decide
 | 3, _ => decide
def DS (p : Int) (P C : Nat) (r : Int × Int × Int × Int × Int × (List (S34)) × (List (S37)) × (List (S37)) × Int) : Prop :=
 p ≤ r.2.2.2.2.2.2.2.2 ∧ r.2.2.2.2.2.2.2.2 ≤ p + P ∧ cSs r.2.2.2.2.2.2.1 + cSs r.2.2.2.2.2.2.2.1 ≤ C
def DL (p : Int) (P C : Nat) (r : List (S37) × Int) : Prop := p ≤ r.2 ∧ r.2 ≤ p + P ∧ cSs r.1 ≤ C
theorem l92Set_ev (b : List Int) (hb : Bytes b) (p : Int) (h0 : 0 ≤ p) (h1 : p ≤ 600000000000) : EvP (fun k => spec_l92Set.f k b p) (DS p 4100 0) := by
 unfold spec_l92Set.f
 refine pick_then hb h0 (by omega) fun v v0 v1 _ => ?_
 refine pick_then hb (by dsimp only; omega) (by dsimp only; omega) fun u u0 u1 _ => ?_
 have := u1 (by omega)
 dsimp only
 rw [w64 (by omega) (by omega)]
 refine EvP.bind (l91Expr_ev' b hb _ _ (by omega) (by omega) (by omega) (by omega)) fun r hr => EvP.ret ?_
 unfold DS
 simp only [cSs_nil]
 omega
theorem l92Talk_ev (b : List Int) (hb : Bytes b) (p a1 : Int) (h0 : 0 ≤ p) (h1 : p ≤ 500000000000) : EvP (fun k => spec_l92Talk.f k b p a1) (DS p 4200 0) := by
 unfold spec_l92Talk.f
 refine EvP.ite (fun h => ?_) (fun h => ?_)
 ·refine EvP.bind (l92Set_ev b hb p h0 (by omega)) fun r hr => EvP.ret ?_
  unfold DS at hr ⊢
  dsimp only
  omega
 ·refine pick_then hb h0 (by omega) fun v v0 v1 _ => ?_
  refine pick_then hb (by dsimp only; omega) (by dsimp only; omega) fun u u0 u1 _ => ?_
  dsimp only
  refine EvP.ite (fun h => ?_) (fun h => ?_)
  ·refine pick_then hb (by omega) (by omega) fun w w0 w1 _ => ?_
   have := w1 (by omega)
   dsimp only
   rw [w64 (by omega) (by omega)]
   refine EvP.bind (l91Expr_ev' b hb _ _ (by omega) (by omega) (by omega) (by omega)) fun r hr => EvP.ret ?_
   unfold DS
   simp only [cSs_nil]
   omega
  ·refine pick_then hb (by omega) (by omega) fun w w0 w1 _ => EvP.ret ?_
   unfold DS
   simp only [cSs_nil]
   omega
theorem l92Block_l0 (b : List Int) (x1 x2 : Int) (x4 : Bool) (P C : Nat) (M : Int)
  (stmt : ∀ p, 0 ≤ p → p ≤ M → EvP (fun k => spec_l92Stmt.f k b p x1 x2 x4) (DL p P C)) (n : Int) :
  ∀ (r j : Nat) (l : List (S37)) (p : Int), (j : Int) + r = n → j + r ≤ 100 → cSs l + r * C ≤ 1000000 → 0 ≤ p → p + ((r * P : Nat) : Int) ≤ M →
   EvP (fun k => spec_l92Block.l0 k x1 x2 n x4 l (j : Int) b p) (DL p (r * P) (cSs l + r * C)) := by
 intro r
 induction r with
 | zero =>
  intro j l p hj hr hl h0 h1
  refine EvP.step (fun k => spec_l92Block.l0.eq_2 (k := k) ..) (EvP.no (by omega) (EvP.ret ?_))
  unfold DL
  dsimp only
  omega
 | succ r ih =>
  intro j l p hj hr hl h0 h1
  have e1 : (r + 1) * P = r * P + P := Nat.succ_mul r P
  have e2 : (r + 1) * C = r * C + C := Nat.succ_mul r C
  rw [e1] at h1 ⊢
  rw [e2] at hl ⊢
  refine EvP.step (fun k => spec_l92Block.l0.eq_2 (k := k) ..) (EvP.yes (by omega) ?_)
  refine EvP.bind (stmt p h0 (by omega)) fun s hs => ?_
  obtain ⟨s0, s1, s2⟩ := hs
  have l1 := cSs_length l
  have l2 := cSs_length s.1
  have ha := cSs_append l s.1
  refine EvP.yes (by omega) ?_
  rw [w64 (by omega) (by omega)]
  refine (ih (j + 1) (l ++ s.1) s.2 (by omega) (by omega) (by omega) (by omega) (by omega)).mono fun a ha => ?_
  unfold DL at ha ⊢
  omega
theorem l92Block_of (b : List Int) (x1 x2 : Int) (x4 : Bool) (P C : Nat) (M : Int)
  (stmt : ∀ p, 0 ≤ p → p ≤ M → EvP (fun k => spec_l92Stmt.f k b p x1 x2 x4) (DL p P C)) (n : Int) (m : Nat) (hn0 : 0 ≤ n) (hn : n ≤ m) (hm : m ≤ 100) (hC : m * C ≤ 1000000) (p : Int) (h0 : 0 ≤ p) (h1 : p + ((m * P : Nat) : Int) ≤ M) :
  EvP (fun k => spec_l92Block.f k b p x1 x2 n x4) (DL p (m * P) (m * C)) := by
 have hnm : n.toNat ≤ m := by omega
 have e1 : n.toNat * P ≤ m * P := Nat.mul_le_mul_right P hnm
 have e2 : n.toNat * C ≤ m * C := Nat.mul_le_mul_right C hnm
 refine EvP.step (fun k => spec_l92Block.f.eq_2 (k := k) ..) ?_
 refine (l92Block_l0 b x1 x2 x4 P C M stmt n n.toNat 0 [] p (by omega) (by omega) (by rw [cSs_nil]; omega) h0 (by omega)).mono fun a ha => ?_
 unfold DL at ha ⊢
 rw [cSs_nil] at ha
 omega
theorem l92If_of (b : List Int) (hb : Bytes b) (x1 a2 : Int) (x4 : Bool) (P C : Nat) (hP : P ≤ 1000000) (hC : C ≤ 1000) (M : Int) (hM : M ≤ 300000000000)
  (stmt : ∀ p, 0 ≤ p → p ≤ M → EvP (fun k => spec_l92Stmt.f k b p x1 (wrap64 (a2 - 1)) x4) (DL p P C)) (p : Int) (h0 : 0 ≤ p) (h1 : p + 10000000 ≤ M) :
  EvP (fun k => spec_l92If.f k b p x1 a2 x4) (DS p (4 * P + 4200) (4 * C)) := by
 refine EvP.step (fun k => spec_l92If.f.eq_2 (k := k) ..) ?_
 refine pick_then hb h0 (by omega) fun v v0 v1 _ => ?_
 have := v1 (by omega)
 dsimp only
 rw [w64 (n := 1 + v) (by omega) (by omega)]
 refine EvP.bind (l91Expr_ev' b hb _ _ (by omega) (by omega) (by omega) (by omega)) fun r hr => ?_
 refine pick_then hb (by omega) (by omega) fun u u0 u1 _ => ?_
 have := u1 (by omega)
 refine EvP.bind (l92Block_of b x1 _ x4 P C M stmt u 2 u0 (by omega) (by omega) (by omega) _ (by dsimp only; omega) (by dsimp only; omega)) fun s hs => ?_
 obtain ⟨s0, s1, s2⟩ := hs
 dsimp only at s0 s1
 refine pick_then hb (by omega) (by omega) fun w w0 w1 _ => ?_
 have := w1 (by omega)
 refine EvP.bind (l92Block_of b x1 _ x4 P C M stmt w 2 w0 (by omega) (by omega) (by omega) _ (by dsimp only; omega) (by dsimp only; omega)) fun t ht => EvP.ret ?_
 obtain ⟨t0, t1, t2⟩ := ht
 dsimp only at t0 t1
 unfold DS
 dsimp only
 omega
theorem l92Loop_of (b : List Int) (hb : Bytes b) (x1 a2 : Int) (P C : Nat) (hP : P ≤ 1000000) (hC : C ≤ 1000) (M : Int) (hM : M ≤ 300000000000)
  (stmt : ∀ p, 0 ≤ p → p ≤ M → EvP (fun k => spec_l92Stmt.f k b p x1 (wrap64 (a2 - 1)) false) (DL p P C)) (p : Int) (h0 : 0 ≤ p) (h1 : p + 10000000 ≤ M) :
  EvP (fun k => spec_l92Loop.f k b p x1 a2) (DL p (2 * P + 10) (2 * C + 3)) := by
 refine EvP.step (fun k => spec_l92Loop.f.eq_2 (k := k) ..) ?_
 refine pick_then hb h0 (by omega) fun v v0 v1 _ => ?_
 have := v1 (by omega)
 refine EvP.bind (l92Block_of b x1 _ false P C M stmt v 2 v0 (by omega) (by omega) (by omega) _ (by dsimp only; omega) (by dsimp only; omega)) fun s hs => ?_
 obtain ⟨s0, s1, s2⟩ := hs
 dsimp only at s0 s1
 refine EvP.bind0 rfl (EvP.bind0 rfl (EvP.bind0 rfl (EvP.bind0 rfl ?_)))
 refine pick_then hb (by omega) (by omega) fun u u0 u1 _ => ?_
 refine EvP.bind0 rfl (EvP.bind0 rfl (EvP.bind0 rfl ?_))
 have l1 := cSs_length s.1
 refine EvP.yes (by simp; omega) (EvP.bind0 rfl (EvP.ret ?_))
 unfold DL
 simp only [cSs, cS, cSs_append]
 omega
theorem l92Stmt_j2 (b : List Int) (hb : Bytes b) (x1 x10 : Int) (x : Bool) (p : Int) (h0 : 0 ≤ p) (h1 : p ≤ 300000000000) :
  EvP (fun k => spec_l92Stmt.j2 k x1 x10 x b p) (DL p 4300 1) := by
 refine EvP.step (fun k => spec_l92Stmt.j2.eq_2 (k := k) ..) (EvP.ite (fun h => ?_) (fun h => EvP.ite (fun h => EvP.ret ?_) (fun h => ?_)))
 ·refine EvP.bind (l92Talk_ev b hb p x1 h0 (by omega)) fun r hr => EvP.ret ?_
  unfold DS at hr
  unfold DL
  simp only [cSs, cS]
  omega
 ·unfold DL
  simp only [cSs, cS]
  omega
 ·refine pick_then hb h0 (by omega) fun u u0 u1 _ => ?_
  have := u1 (by omega)
  dsimp only
  rw [w64 (by omega) (by omega)]
  refine EvP.bind (l91Expr_ev' b hb _ _ (by omega) (by omega) (by omega) (by omega)) fun r hr => EvP.ret ?_
  unfold DL
  simp only [cSs, cS]
  omega
theorem l92Stmt_ev (b : List Int) (hb : Bytes b) : ∀ (d : Nat) (a2 : Int) (x1 : Int) (x3 : Bool) (p : Int), d ≤ 3 → a2 = d → 0 ≤ p → p + (d : Int) * 20000000 ≤ 200000000000 → EvP (fun k => spec_l92Stmt.f k b p x1 a2 x3) (DL p (pB d) (cB d)) := by
 intro d
 induction d with
 | zero =>
  intro a2 x1 x3 p hd ha h0 h1
  have j2 : ∀ (q x10 : Int) (x : Bool), p ≤ q → q ≤ p + 1 → EvP (fun k => spec_l92Stmt.j2 k x1 x10 x b q) (DL p (pB 0) (cB 0)) := fun q x10 x hq hq2 => (l92Stmt_j2 b hb x1 x10 x q (by omega) (by omega)).mono fun r hr => by
   unfold DL at hr ⊢
   simp only [pB, cB]
   omega
  have pr : ∀ q : Int, p ≤ q → q ≤ p + 1 → EvP (fun k => (spec_l6Rd_pick.f k b q 3).bind fun bt442 => ((spec_l91Expr.f k b bt442.2 (wrap64 (1 + bt442.1))).bind fun bt444 => (some ((([(⟨7, 0, 0, (⟨bt444.1, bt444.2.1, bt444.2.2.1⟩ : S34), ([] : List (S37)), ([] : List (S37))⟩ : S37)] : List (S37))), bt444.2.2.2)))) (DL p (pB 0) (cB 0)) := by
   intro q hq hq2
   refine pick_then hb (by omega) (by omega) fun u u0 u1 _ => ?_
   have := u1 (by omega)
   dsimp only
   rw [w64 (by omega) (by omega)]
   refine EvP.bind (l91Expr_ev' b hb _ _ (by omega) (by omega) (by omega) (by omega)) fun r hr => EvP.ret ?_
   unfold DL
   simp only [cSs, cS, pB, cB]
   omega
  have j1 : ∀ q : Int, p ≤ q → q ≤ p + 1 → EvP (fun k => spec_l92Stmt.j1 k x1 a2 false b q) (DL p (pB 0) (cB 0)) := fun q hq hq2 =>
   EvP.step (fun k => spec_l92Stmt.j1.eq_2 (k := k) ..) (EvP.no Bool.false_ne_true (pr q hq hq2))
  have j0 : ∀ (q x10 : Int) (x : Bool), p ≤ q → q ≤ p + 1 → EvP (fun k => spec_l92Stmt.j0 k x1 a2 x3 x10 x b q) (DL p (pB 0) (cB 0)) := by
   intro q x10 x hq hq2
   refine EvP.step (fun k => spec_l92Stmt.j0.eq_2 (k := k) ..) (EvP.ite (fun h => ?_) (fun h => EvP.ite (fun h => EvP.no (by omega) (pr q hq hq2)) (fun h => EvP.ite (fun h => EvP.no (by omega) (j1 q hq hq2)) (fun h => EvP.ite (fun h => j2 q _ _ hq hq2) (fun h => EvP.ite (fun h => j2 q _ _ hq hq2) (fun h => j2 q _ _ hq hq2))))))
   refine EvP.bind (l92Set_ev b hb q (by omega) (by omega)) fun r hr => EvP.ret ?_
   unfold DS at hr
   unfold DL
   simp only [cSs, cS, pB, cB]
   omega
  refine EvP.step (fun k => spec_l92Stmt.f.eq_2 (k := k) ..) (pick_then hb h0 (by omega) fun u u0 u1 _ => ?_)
  dsimp only
  exact EvP.ite (fun h => j0 _ _ _ (by omega) (by omega)) (fun h => j0 _ _ _ (by omega) (by omega))
 | succ d ih =>
  intro a2 x1 x3 p hd ha h0 h1
  have hc := cB_le (show d ≤ 3 by omega)
  have hp := pB_le (show d ≤ 3 by omega)
  have ec : cB (d + 1) = 4 * cB d + 3 := rfl
  have ep : pB (d + 1) = 4 * pB d + 5000 := rfl
  have ew : wrap64 (a2 - 1) = (d : Int) := by
   rw [w64 (by omega) (by omega)]
   omega
  have stmt : ∀ (x4 : Bool) (p : Int), 0 ≤ p → p ≤ 200000000000 - (d : Int) * 20000000 → EvP (fun k => spec_l92Stmt.f k b p x1 (wrap64 (a2 - 1)) x4) (DL p (pB d) (cB d)) := fun x4 p h0 h1 => ih _ x1 x4 p (by omega) ew h0 (by omega)
  have j2 : ∀ (q x10 : Int) (x : Bool), p ≤ q → q ≤ p + 1 → EvP (fun k => spec_l92Stmt.j2 k x1 x10 x b q) (DL p (pB (d + 1)) (cB (d + 1))) := fun q x10 x hq hq2 => (l92Stmt_j2 b hb x1 x10 x q (by omega) (by omega)).mono fun r hr => by
   unfold DL at hr ⊢
   omega
  have pr : ∀ q : Int, p ≤ q → q ≤ p + 1 → EvP (fun k => (spec_l6Rd_pick.f k b q 3).bind fun bt442 => ((spec_l91Expr.f k b bt442.2 (wrap64 (1 + bt442.1))).bind fun bt444 => (some ((([(⟨7, 0, 0, (⟨bt444.1, bt444.2.1, bt444.2.2.1⟩ : S34), ([] : List (S37)), ([] : List (S37))⟩ : S37)] : List (S37))), bt444.2.2.2)))) (DL p (pB (d + 1)) (cB (d + 1))) := by
   intro q hq hq2
   refine pick_then hb (by omega) (by omega) fun u u0 u1 _ => ?_
   have := u1 (by omega)
   dsimp only
   rw [w64 (by omega) (by omega)]
   refine EvP.bind (l91Expr_ev' b hb _ _ (by omega) (by omega) (by omega) (by omega)) fun r hr => EvP.ret ?_
   unfold DL
   simp only [cSs, cS]
   omega
  have j1 : ∀ (q : Int) (x : Bool), p ≤ q → q ≤ p + 1 → EvP (fun k => spec_l92Stmt.j1 k x1 a2 x b q) (DL p (pB (d + 1)) (cB (d + 1))) := by
   intro q x hq hq2
   refine EvP.step (fun k => spec_l92Stmt.j1.eq_2 (k := k) ..) (EvP.ite (fun h => ?_) (fun h => pr q hq hq2))
   refine EvP.bind (l92Loop_of b hb x1 a2 (pB d) (cB d) (by omega) (by omega) (200000000000 - (d : Int) * 20000000) (by omega) (stmt false) q (by omega) (by omega)) fun r hr => EvP.ret ?_
   unfold DL at hr ⊢
   dsimp only
   omega
  have j0 : ∀ (q x10 : Int) (x : Bool), p ≤ q → q ≤ p + 1 → EvP (fun k => spec_l92Stmt.j0 k x1 a2 x3 x10 x b q) (DL p (pB (d + 1)) (cB (d + 1))) := by
   intro q x10 x hq hq2
   refine EvP.step (fun k => spec_l92Stmt.j0.eq_2 (k := k) ..) (EvP.ite (fun h => ?_) (fun h => EvP.ite (fun h => EvP.ite (fun h => ?_) (fun h => pr q hq hq2)) (fun h => EvP.ite (fun h => EvP.ite (fun h => j1 q _ hq hq2) (fun h => j1 q _ hq hq2)) (fun h => EvP.ite (fun h => j2 q _ _ hq hq2) (fun h => EvP.ite (fun h => j2 q _ _ hq hq2) (fun h => j2 q _ _ hq hq2))))))
   ·refine EvP.bind (l92Set_ev b hb q (by omega) (by omega)) fun r hr => EvP.ret ?_
    unfold DS at hr
    unfold DL
    simp only [cSs, cS]
    omega
   ·refine EvP.bind (l92If_of b hb x1 a2 x3 (pB d) (cB d) (by omega) (by omega) (200000000000 - (d : Int) * 20000000) (by omega) (stmt x3) q (by omega) (by omega)) fun r hr => EvP.ret ?_
    unfold DS at hr
    unfold DL
    simp only [cSs, cS]
    omega
  refine EvP.step (fun k => spec_l92Stmt.f.eq_2 (k := k) ..) (pick_then hb h0 (by omega) fun u u0 u1 _ => ?_)
  dsimp only
  exact EvP.ite (fun h => j0 _ _ _ (by omega) (by omega)) (fun h => j0 _ _ _ (by omega) (by omega))
theorem l92Block_ev (b : List Int) (hb : Bytes b) (d : Nat) (hd : d ≤ 3) (a2 x1 : Int) (ha : a2 = d) (x4 : Bool) (n : Int) (m : Nat) (hn0 : 0 ≤ n) (hn : n ≤ m) (hm : m ≤ 6) (p : Int) (h0 : 0 ≤ p) (h1 : p ≤ 190000000000) :
  EvP (fun k => spec_l92Block.f k b p x1 a2 n x4) (DL p (m * pB d) (m * cB d)) := by
 have hc := cB_le hd
 have hp := pB_le hd
 have e1 : m * pB d ≤ 6 * pB d := Nat.mul_le_mul_right _ hm
 have e2 : m * cB d ≤ 6 * cB d := Nat.mul_le_mul_right _ hm
 exact l92Block_of b x1 a2 x4 (pB d) (cB d) (200000000000 - (d : Int) * 20000000) (fun p h0 h1 => l92Stmt_ev b hb d a2 x1 x4 p hd ha h0 (by omega)) n m hn0 hn (by omega) (by omega) p h0 (by omega)
theorem l92Stmts_l0 (b : List Int) (p : Int) : ∀ (m : Nat) (l : List (S37)), l.length = m → cSs l ≤ 1000000 → EvP (fun k => spec_l92Stmts.l0 k l b p) (fun r => r.2 = p ∧ cSs r.1 ≤ 16) := by
 intro m
 induction m with
 | zero =>
  intro l hm hl
  obtain rfl := List.eq_nil_of_length_eq_zero hm
  refine EvP.step (fun k => spec_l92Stmts.l0.eq_2 (k := k) ..) (EvP.bindEq (spec_l11Count_ev _ _ hl (by omega)) (EvP.no ?_ (EvP.ret ⟨rfl, ?_⟩)))
  ·rw [cSs_nil]
   omega
  ·rw [cSs_nil]
   omega
 | succ m ih =>
  intro l hm hl
  refine EvP.step (fun k => spec_l92Stmts.l0.eq_2 (k := k) ..) (EvP.bindEq (spec_l11Count_ev _ _ hl (by omega)) (EvP.ite (fun h => ?_) (fun h => EvP.ret ⟨rfl, by dsimp only; omega⟩)))
  have hlen := cSs_length l
  rw [w64 (by omega) (by omega), show (((l.length : Int) - 1)).toNat = m by omega]
  have ht := cSs_take_drop l m
  exact EvP.yes (by omega) (EvP.yes (by omega) (ih _ (by rw [List.length_take]; omega) (by omega)))
theorem l92Stmts_ev (b : List Int) (hb : Bytes b) (p a1 : Int) (h0 : 0 ≤ p) (h1 : p ≤ 180000000000) : EvP (fun k => spec_l92Stmts.f k b p a1) (DL p 3000000 16) := by
 unfold spec_l92Stmts.f
 refine pick_then hb h0 (by omega) fun v v0 v1 _ => ?_
 have := v1 (by omega)
 dsimp only
 rw [w64 (by omega) (by omega)]
 have hc := cB_le (show 3 ≤ 3 by omega)
 have hp := pB_le (show 3 ≤ 3 by omega)
 refine EvP.bind (l92Block_ev b hb 3 (by omega) 3 a1 rfl true (1 + v) 6 (by omega) (by omega) (by omega) _ (by omega) (by omega)) fun r hr => ?_
 obtain ⟨r0, r1, r2⟩ := hr
 refine (l92Stmts_l0 b r.2 _ r.1 rfl (by omega)).mono fun s hs => ?_
 unfold DL
 omega
theorem l92Endless_ev (b : List Int) (hb : Bytes b) (p : Int) (h0 : 0 ≤ p) (h1 : p ≤ 180000000000) : EvP (fun k => spec_l92Endless.f k b p) (DS p 100000 20) := by
 unfold spec_l92Endless.f
 refine EvP.bind0 rfl (pick_then hb h0 (by omega) fun v v0 v1 _ => ?_)
 have := v1 (by omega)
 dsimp only
 refine EvP.bind (l92Block_ev b hb 1 (by omega) 1 0 rfl false v 2 (by omega) (by omega) (by omega) _ (by omega) (by omega)) fun r hr => EvP.ret ?_
 obtain ⟨r0, r1, r2⟩ := hr
 have e1 : cB 1 = 7 := rfl
 have e2 : pB 1 = 25000 := rfl
 rw [e2] at r1
 rw [e1] at r2
 unfold DS
 simp only [cSs_nil]
 omega
end Go.Proofs.Ytpcbfcaacilghaa.PA

namespace Go.Proofs.Ytpcbfcaacilghaa.PA
open Go.RowKit Go.Proofs.YtpcbfcaacilghaaW.PrintWords Go.Proofs.YtpcbfcaacilghaaW.PrintLast Go.Proofs.YtpcbfcaacilghaaW.PrintMore Go.Proofs.Ytpcbfcaacilghaa.Core
theorem l92Rooms_l0 (b : List Int) (hb : Bytes b) : ∀ (d : Nat) (l : List Int) (n : Int) (p : Int), (l.length : Int) + d = n → n ≤ 3 → 0 ≤ p → p + d ≤ 800000000000 →
  EvP (fun k => spec_l92Rooms.l0 k l n (l.length : Int) b p) (fun r => r.2 = p + d ∧ r.1.length = l.length + d) := by
 intro d
 induction d with
 | zero =>
  intro l n p hn h3 h0 h1
  exact EvP.step (fun k => spec_l92Rooms.l0.eq_2 (k := k) ..) (EvP.no (by omega) (EvP.ret ⟨by simp, rfl⟩))
 | succ d ih =>
  intro l n p hn h3 h0 h1
  refine EvP.step (fun k => spec_l92Rooms.l0.eq_2 (k := k) ..) (EvP.yes (by omega) (EvP.bind0 rfl (pick_then hb h0 (by omega) fun v v0 v1 _ => ?_)))
  have := v1 (by omega)
  dsimp only
  refine EvP.yes (by omega) (EvP.yes (by simp; omega) (EvP.yes (by omega) ?_))
  have e : wrap64 ((l.length : Int) + 1) = ((l ++ [rd [1, 1, 2, 3, 4] v]).length : Int) := by
   rw [w64 (by omega) (by omega), List.length_append]
   simp
  rw [e]
  refine (ih _ n _ (by rw [List.length_append, List.length_singleton]; omega) h3 (by omega) (by omega)).mono fun r hr => ?_
  rw [List.length_append, List.length_singleton] at hr
  omega
theorem l92Rooms_ev (b : List Int) (hb : Bytes b) (p : Int) (h0 : 0 ≤ p) (h1 : p ≤ 700000000000) : EvP (fun k => spec_l92Rooms.f k b p) (fun r => p ≤ r.2 ∧ r.2 ≤ p + 4 ∧ r.1.length ≤ 3) := by
 unfold spec_l92Rooms.f
 refine EvP.bind0 rfl (pick_then hb h0 (by omega) fun v v0 v1 _ => ?_)
 have := v1 (by omega)
 dsimp only
 refine EvP.yes (by omega) (EvP.yes (by simp; omega) ?_)
 have hm : rd [0, 1, 1, 2, 2, 3] v ∈ [0, 1, 1, 2, 2, 3] := rd_mem _ _ (by omega) (by simp; omega)
 have hr : 0 ≤ rd [0, 1, 1, 2, 2, 3] v ∧ rd [0, 1, 1, 2, 2, 3] v ≤ 3 := by
  generalize rd [0, 1, 1, 2, 2, 3] v = x at hm
  simp at hm
  omega
 refine (l92Rooms_l0 b hb (rd [0, 1, 1, 2, 2, 3] v).toNat [] (rd [0, 1, 1, 2, 2, 3] v) (p + 1) (by simp; omega) (by omega) (by omega) (by omega)).mono fun r hr => ?_
 simp only [List.length_nil] at hr
 omega
def DP (p : Int) (P R T C : Nat) (r : List Int × List (List (S37)) × Int) : Prop := p ≤ r.2.2 ∧ r.2.2 ≤ p + P ∧ r.1.length ≤ R ∧ r.2.1.length ≤ T ∧ ∀ t ∈ r.2.1, cSs t ≤ C
theorem l92Program_l0 (b : List Int) (hb : Bytes b) (rs : List Int) : ∀ (d : Nat) (ts : List (List (S37))) (n p : Int), (ts.length : Int) + d = n → 1 ≤ n → n ≤ 3 → 0 ≤ p → p + d * 3000000 ≤ 100000000000 → (∀ t ∈ ts, cSs t ≤ 36) →
  EvP (fun k => spec_l92Program.l0 k n (ts.length : Int) b p rs ts) (fun r => p ≤ r.2.2 ∧ r.2.2 ≤ p + d * 3000000 + 200000 ∧ r.1 = rs ∧ 1 ≤ r.2.1.length ∧ r.2.1.length ≤ 3 ∧ ∀ t ∈ r.2.1, cSs t ≤ 36) := by
 intro d
 induction d with
 | zero =>
  intro ts n p hn h1 h3 h0 hp ht
  refine EvP.step (fun k => spec_l92Program.l0.eq_2 (k := k) ..) (EvP.no (by omega) (pick_then hb h0 (by omega) fun v v0 v1 _ => ?_))
  dsimp only
  refine EvP.ite (fun _ => EvP.bind (l92Endless_ev b hb _ (by omega) (by omega)) fun s hs => EvP.yes (by omega) (EvP.ret ?_)) (fun _ => EvP.ret ?_)
  ·unfold DS at hs
   refine ⟨by dsimp only; omega, by dsimp only; omega, rfl, by dsimp only; rw [List.length_set]; omega, by dsimp only; rw [List.length_set]; omega, fun t hm => ?_⟩
   rcases List.mem_or_eq_of_mem_set hm with hm | rfl
   ·exact ht t hm
   ·simp only [cSs, cS]
    omega
  ·exact ⟨by dsimp only; omega, by dsimp only; omega, rfl, by dsimp only; omega, by dsimp only; omega, ht⟩
 | succ d ih =>
  intro ts n p hn h1 h3 h0 hp ht
  refine EvP.step (fun k => spec_l92Program.l0.eq_2 (k := k) ..) (EvP.yes (by omega) (EvP.bind (l92Stmts_ev b hb p _ h0 (by omega)) fun s hs => EvP.yes (by omega) ?_))
  obtain ⟨s0, s1, s2⟩ := hs
  have e : wrap64 ((ts.length : Int) + 1) = ((ts ++ [s.1]).length : Int) := by
   rw [w64 (by omega) (by omega), List.length_append]
   simp
  rw [e]
  refine (ih _ n s.2 (by rw [List.length_append, List.length_singleton]; omega) h1 h3 (by omega) (by omega) (fun t hm => ?_)).mono fun r hr => ?_
  ·rcases List.mem_append.1 hm with hm | hm
   ·exact ht t hm
   ·rw [List.mem_singleton.1 hm]
    omega
  ·obtain ⟨r0, r1, r2⟩ := hr
   exact ⟨by omega, by omega, r2⟩
theorem l92Program_ev (b : List Int) (hb : Bytes b) (p : Int) (h0 : 0 ≤ p) (h1 : p ≤ 50000000000) : EvP (fun k => spec_l92Program.f k b p) (fun r => DP p 9500000 3 3 36 r ∧ 1 ≤ r.2.1.length) := by
 unfold spec_l92Program.f
 refine EvP.bind (l92Rooms_ev b hb p h0 (by omega)) fun r hr => pick_then hb (by omega) (by omega) fun v v0 v1 _ => ?_
 have := v1 (by omega)
 dsimp only
 rw [w64 (by omega) (by omega)]
 refine (l92Program_l0 b hb r.1 (1 + v).toNat [] (1 + v) (r.2 + 1) (by simp; omega) (by omega) (by omega) (by omega) (by omega) (fun t ht => by cases ht)).mono fun s hs => ?_
 obtain ⟨s0, s1, s2, s3, s4, s5⟩ := hs
 exact ⟨⟨by omega, by omega, by rw [s2]; omega, by omega, s5⟩, s3⟩
theorem rdSS_mem (l : List (List (S37))) (h : 0 < l.length) : rd_L4 l 0 ∈ l := by
 rw [show (0 : Int) = ((0 : Nat) : Int) from rfl, rdSS_nat l 0 h]
 exact List.getElem_mem h
theorem l92Wrong_ev (b : List Int) (hb : Bytes b) (p : Int) (h0 : 0 ≤ p) (h1 : p ≤ 50000000000) : EvP (fun k => spec_l92Wrong.f k b p) (DP p 9600000 4 6 40) := by
 unfold spec_l92Wrong.f
 refine EvP.bind (l92Program_ev b hb p h0 h1) fun r hr => ?_
 obtain ⟨⟨r0, r1, r2, r3, r4⟩, r5⟩ := hr
 refine pick_then hb (by omega) (by omega) fun v v0 v1 _ => ?_
 dsimp only
 have hl : ∀ t ∈ r.2.1, cSs t ≤ 40 := fun t ht => Nat.le_trans (r4 t ht) (by omega)
 refine EvP.ite (fun h => ?_) (fun h => EvP.ite (fun h => ?_) (fun h => EvP.ite (fun h => ?_) (fun h => EvP.ite (fun h => ?_) (fun h => EvP.ite (fun h => ?_) (fun h => EvP.ret ?_)))))
 ·refine EvP.bind0 rfl (pick_then hb (by omega) (by omega) fun u u0 u1 _ => ?_)
  have := u1 (by omega)
  refine EvP.yes u0 (EvP.yes (by simp; omega) (EvP.yes (by omega) (EvP.ret ⟨by dsimp only; omega, by dsimp only; omega, by dsimp only; rw [List.length_append, List.length_singleton]; omega, by dsimp only; omega, hl⟩)))
 ·refine EvP.bind (l91Leaf_ev b hb _ (by omega) (by omega)) fun s hs => EvP.yes (by omega) (EvP.ret ⟨by dsimp only; omega, by dsimp only; omega, by dsimp only; omega, by dsimp only; rw [List.length_append, List.length_singleton]; omega, fun t ht => ?_⟩)
  rcases List.mem_append.1 ht with ht | ht
  ·exact hl t ht
  ·rw [List.mem_singleton.1 ht]
   simp only [cSs, cS]
   omega
 ·exact EvP.ret ⟨by dsimp only; omega, by dsimp only; omega, by dsimp only; omega, by simp, fun t ht => by cases ht⟩
 ·have hm := rdSS_mem r.2.1 (by omega)
  refine EvP.yes (by omega) (EvP.bind0 rfl (EvP.yes (by simp; omega) (EvP.ret ⟨by dsimp only; omega, by dsimp only; omega, by dsimp only; omega, by dsimp only; rw [List.length_append]; simp; omega, fun t ht => ?_⟩)))
  rcases List.mem_append.1 ht with ht | ht
  ·exact hl t ht
  ·simp only [List.mem_cons, List.not_mem_nil, or_false, or_self] at ht
   rw [ht]
   exact hl _ hm
 ·have hm := rdSS_mem r.2.1 (by omega)
  have hc := r4 _ hm
  have hlen := cSs_length (rd_L4 r.2.1 0)
  refine EvP.yes (by omega) (EvP.yes (by omega) (EvP.ret ⟨by dsimp only; omega, by dsimp only; omega, by dsimp only; omega, by dsimp only; rw [List.length_set]; omega, fun t ht => ?_⟩))
  rcases List.mem_or_eq_of_mem_set ht with ht | rfl
  ·exact hl t ht
  ·rw [cSs_append]
   simp only [cSs, cS]
   omega
 ·exact ⟨by dsimp only; omega, by dsimp only; omega, by dsimp only; omega, by dsimp only; omega, hl⟩
theorem DrawProgramPlain_ev (l : List Int) (hl : l.length ≤ 140737488351232) (hw : ∀ x ∈ l, (Lit.int .u8 x).wf = true) : EvP (fun k => spec_DrawProgramPlain.f k l) (fun r => r.1.length ≤ 4 ∧ r.2.length ≤ 6 ∧ ∀ t ∈ r.2, cSs t ≤ 40) := by
 obtain ⟨b, hb0, hb⟩ := open_bytes l hl hw
 unfold spec_DrawProgramPlain.f
 exact EvP.bind0 hb0 (EvP.bind (l92Wrong_ev b hb _ (by dsimp only; omega) (by dsimp only; omega)) fun r hr => EvP.ret hr.2.2)
theorem smalls_of {ts : List (List (S37))} (h : ts.length ≤ 6 ∧ ∀ t ∈ ts, cSs t ≤ 40) : Smalls ts := ⟨by omega, fun t ht => Nat.le_trans (h.2 t ht) (by omega)⟩
end Go.Proofs.Ytpcbfcaacilghaa.PA

namespace Go.Proofs.Ytpcbfcaacilghaa.Pure
open Go.RowKit Go.Proofs.Ytpcbfcaacilghaa.PA Go.Proofs.YtpcbfcaacilghaaW.PrintWords Go.Proofs.YtpcbfcaacilghaaW.PrintLast Go.Proofs.YtpcbfcaacilghaaW.PrintMore Go.Proofs.Ytpcbfcaacilghaa.Core
theorem lpSs_mem : ∀ (l : List (S37)), lpSs l = false → ∀ x ∈ l, lpS x = false
 | [], _, x, hx => by cases hx
 | y :: l, h, x, hx => by
  rw [lpSs, Bool.or_eq_false_iff] at h
  rcases List.mem_cons.1 hx with rfl | hx
  ·exact h.1
  ·exact lpSs_mem l h.2 x hx
theorem countKind_no : ∀ (c : Nat) (l : List (S37)), cSs l ≤ c → c ≤ 1000000000 → lpSs l = false → EvP (fun k => laws_countKind.f k l 3) (· = 0) := by
  intro c
  induction c with
  | zero =>
    intro l hl hc _
    have := cSs_length l
    exact EvP.step (fun k => laws_countKind.f.eq_2 (k := k) ..) (EvP.step (fun k => laws_countKind.l0.eq_2 (k := k) ..) (EvP.no (by omega) (EvP.ret rfl)))
  | succ c ih =>
    intro l hl hc hno
    have hlen := cSs_length l
    have loop : ∀ (r j : Nat), j + r = l.length → EvP (fun k => laws_countKind.l0 k l 3 0 (j : Int)) (· = 0) := by
      intro r
      induction r with
      | zero =>
        intro j hj
        exact EvP.step (fun k => laws_countKind.l0.eq_2 (k := k) ..) (EvP.no (by omega) (EvP.ret rfl))
      | succ r ih2 =>
        intro j hj
        have hlt : j < l.length := by omega
        have hm := cSs_mem l _ (List.getElem_mem hlt)
        have hcs := cS_f l[j]
        have hx := lpSs_mem l hno _ (List.getElem_mem hlt)
        rw [lpS_f, Bool.or_eq_false_iff, Bool.or_eq_false_iff] at hx
        refine EvP.step (fun k => laws_countKind.l0.eq_2 (k := k) ..) (EvP.yes (by omega) (EvP.yes (by omega) ?_))
        rw [rdS_nat l j hlt, w64 (n := (j : Int) + 1) (by omega) (by omega)]
        refine EvP.no (by simpa using hx.1) (EvP.bindEq (ih _ (by omega) (by omega) hx.2.1) (EvP.bindEq (ih _ (by omega) (by omega) hx.2.2) ?_))
        rw [w64 (n := (0 : Int) + 0) (by omega) (by omega), w64 (n := (0 : Int) + 0 + 0) (by omega) (by omega)]
        exact ih2 (j + 1) (by omega)
    exact EvP.step (fun k => laws_countKind.f.eq_2 (k := k) ..) (loop l.length 0 (by omega))
theorem s_ev : ∀ (ts : List (List (S37))), (∀ t ∈ ts, cSs t ≤ 1000000000 ∧ lpSs t = false) → EvP (fun k => laws_FnPlain.s k ts) (· = 0)
  | [], _ => EvP.congr (fun k => by rw [laws_FnPlain.s]) (EvP.ret rfl)
  | t :: ts, h => EvP.congr (fun k => by rw [laws_FnPlain.s]) (EvP.bindEq (countKind_no _ t (h t List.mem_cons_self).1 (Nat.le_refl _) (h t List.mem_cons_self).2) (EvP.yes rfl (s_ev ts (fun u hu => h u (List.mem_cons_of_mem _ hu)))))
theorem while_ok (m : Int) : okT m [(⟨3, 0, 0, ⟨0, 1, []⟩, [], []⟩ : S37)] = true := by
 have h : cSs [(⟨3, 0, 0, ⟨0, 1, []⟩, [], []⟩ : S37)] = 1 := by simp only [cSs, cS]
 unfold okT
 rw [h]
 rfl
theorem FnPlain : laws_FnPlain.Pure := by
 intro l0 ⟨hl0, hw0⟩
 refine EvP.ends (r := true) ?_
 unfold laws_FnPlain.f
 refine EvP.ite (fun _ => EvP.ret rfl) (fun _ => ?_)
 refine EvP.bind (DrawProgramPlain_ev l0 (by omega) hw0) fun r hr => ?_
 obtain ⟨h4, h6⟩ := hr
 have hs := smalls_of h6
 refine EvP.bindEq (impl_ProgramPlain_ev r.1 r.2 (by omega) hs) (EvP.bindEq (spec_ProgramPlain_ev r.1 r.2 (by omega) hs) ?_)
 cases hv : plainP r.1 r.2 with
 | false => exact EvP.yes rfl (EvP.ret rfl)
 | true =>
  have hv2 := hv
  unfold plainP at hv2
  rw [Bool.and_eq_true, Bool.not_eq_true', List.any_eq_false] at hv2
  obtain ⟨hp, hl⟩ := hv2
  obtain ⟨g1, g2, g3, g4⟩ := progOk_iff.mp hp
  have hs2 : Smalls ([[(⟨3, 0, 0, ⟨0, 1, []⟩, [], []⟩ : S37)]] ++ r.2.drop 1) := ⟨by simp; omega, fun t ht => by
   rcases List.mem_append.1 ht with ht | ht
   ·rw [List.mem_singleton.1 ht]
    simp only [cSs, cS]
    omega
   ·exact hs.2 t (List.mem_of_mem_drop ht)⟩
  have ok2 : progOk r.1 ([[(⟨3, 0, 0, ⟨0, 1, []⟩, [], []⟩ : S37)]] ++ r.2.drop 1) = true := progOk_iff.mpr ⟨g1, by simp, by simp; omega, fun t ht => by
   rcases List.mem_append.1 ht with ht | ht
   ·rw [List.mem_singleton.1 ht]
    exact while_ok _
   ·exact g4 t (List.mem_of_mem_drop ht)⟩
  refine EvP.no (by simp) (EvP.yes g2 (EvP.yes (by omega) (EvP.bindEq (s_ev r.2 (fun t ht => ⟨hs.2 t ht, by simpa using hl t ht⟩)) (EvP.bindEq (impl_ProgramValid_ev r.1 r.2 (by omega) hs) (EvP.yes hp (EvP.bindEq (impl_ProgramValid_ev r.1 _ (by omega) hs2) (EvP.yes ok2 (EvP.bindEq (impl_ProgramPlain_ev r.1 _ (by omega) hs2) (EvP.ret ?_)))))))))
  unfold plainP
  simp [lpSs, lpS]
end Go.Proofs.Ytpcbfcaacilghaa.Pure


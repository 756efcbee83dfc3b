/- Part 6 of the proof of FnStmtsFoldIf. -/
import Derived.Test.YtodhbeeibagiaaaQFnStmtsFoldIf4
import Derived.Laws.BitsLemmas
set_option maxHeartbeats 8000000
set_option maxRecDepth 100000
namespace Go.Proofs.Ytodhbeeibagiaaa.PA
open Go.RowKit Go.Proofs.YtodhbeeibagiaaaW.PrintWords Go.Proofs.YtodhbeeibagiaaaW.PrintLast Go.Proofs.YtodhbeeibagiaaaW.PrintMore
attribute [local go_sem] max2_int min2_int max_two min_two max_three min_three max_four min_four
set_option linter.unusedVariables false
set_option linter.unusedSimpArgs false
theorem laws_countKind.mono_l : ∀ k, (∀ y0 y1, LeO (laws_countKind.f k y0 y1) (laws_countKind.f (k + 1) y0 y1)) ∧ (∀ y0 y1 y2 y3, LeO (laws_countKind.l0 k y0 y1 y2 y3) (laws_countKind.l0 (k + 1) y0 y1 y2 y3))
 | 0 => ⟨fun _ _ r h => by simp [laws_countKind.f] at h, fun _ _ _ _ r h => by simp [laws_countKind.l0] at h⟩
 | k + 1 => by
  obtain ⟨ih0, ih1⟩ := laws_countKind.mono_l k
  refine ⟨?_, ?_⟩
  ·intro y0 y1
   unfold laws_countKind.f
   repeat' first
   | (with_reducible exact ih0 _ _)
   | (with_reducible exact ih1 _ _ _ _)
   | (with_reducible exact LeO.refl _)
   | (with_reducible exact LeO.none _)
   | (with_reducible refine LeO.ite ?_ ?_)
   | (with_reducible refine LeO.bind ?_ (fun _ => ?_))
  ·intro y0 y1 y2 y3
   unfold laws_countKind.l0
   repeat' first
   | (with_reducible exact ih0 _ _)
   | (with_reducible exact ih1 _ _ _ _)
   | (with_reducible exact LeO.refl _)
   | (with_reducible exact LeO.none _)
   | (with_reducible refine LeO.ite ?_ ?_)
   | (with_reducible refine LeO.bind ?_ (fun _ => ?_))
theorem laws_countKind.mono : ∀ a0 a1 k, LeO (laws_countKind.f k a0 a1) (laws_countKind.f (k + 1) a0 a1) := by
 intro a0 a1 k
 obtain ⟨ih0, ih1⟩ := laws_countKind.mono_l k
 exact ih0 a0 a1
def laws_countKind.T7 : Bool × List (List Nat × List Nat) := (true, [([], []), ([], []), ([], []), ([1, 2], [1, 2]), ([3], [3]), ([4], [4]), ([], []), ([5, 6], [5, 6]), ([0, 7], [0, 7]), ([], []), ([], []), ([9, 10], [9, 10]), ([11], [11]), ([12], [12]), ([], []), ([13, 14, 7], [13, 14]), ([8, 15], [8, 15]), ([16, 15, 0, 1, 2, 3, 4, 5, 6, 7, 8, 9, 10, 11, 12, 13, 14, 15, 16], [0, 16])])
def laws_countKind.B7 : List Nat := [0, 0, 0, 6, 14, 30, 0, 126, 255, 0, 0, 1536, 3584, 7680, 0, 32510, 65535, 131071]
theorem laws_countKind.tab7 : rtab .any (opsOf Try.f20 7) = laws_countKind.T7 := by kernel_rfl
theorem laws_countKind.bits7 : waitsOk laws_countKind.T7.2 laws_countKind.B7 = true := by kernel_rfl
theorem laws_countKind.calls (k : Nat) : ∀ (A0 : Option Addr) (c0 : Nat) (l0 : List (S35)) (a1 : Int) (r : Int) (w : World) (hr0 : Kd.C k35 w A0 l0.length l0) (hc0 : l0.length ≤ c0) (h : laws_countKind.f k l0 a1 = some r),
  Calls Try.prog 20 #[.slice A0 l0.length c0, .int .i64 a1] w fun e w' => e = .returned (.int .i64 r) ∧ Below w.heap.size w w' := by
 induction k using Nat.strongRecOn with
 | _ k ih =>
 intro A0 c0 l0 a1 r w hr0 hc0 h
 cases k with
 | zero => exact absurd h (by simp [laws_countKind.f])
 | succ k =>
 simp only [laws_countKind.f] at h
 have HR0 := am hr0
 have HC0 := am hc0
 clear hr0 hc0
 have HB := am (Below.refl w.heap.size w)
 have H : (laws_countKind.l0 k l0 a1 0 0) = some r := h
 clear h
 have H' := am H
 clear H
 go_enter Try.func20, Try.ntmps20
 go_wp2
 go_loopg [5, 6] k (fun kq v5 v6 w' => ∃ (x5_1 : Int) (x6_1 : Int), v5 = .int .i64 x5_1 ∧ v6 = .int .i64 x6_1 ∧ Aside0 (laws_countKind.l0 kq l0 a1 x5_1 x6_1 = some r) ∧ Aside0 (kq ≤ k) ∧ Aside0 (Below w.heap.size w w'))
 case atStart => exact ⟨(0), (0), sd_, sd_, H', ⟨Nat.le_refl _⟩, ⟨ab2_⟩⟩
 case round =>
  clear H'
  obtain ⟨x5_1, x6_1, rfl, rfl, HA, HK1, HB⟩ := hrel
  cases gk with
  | zero => exact absurd HA.out (by simp [laws_countKind.l0])
  | succ k1 =>
   have H := HA.out
   clear HA
   simp only [laws_countKind.l0] at H
   by_cases c3 : x6_1 < (l0.length : Int)
   ·rw [if_pos c3] at H
    have c3b0 : decide (x6_1 < (l0.length : Int)) = true := decide_eq_true c3
    clear c3
    by_cases c4 : 0 ≤ x6_1
    ·rw [if_pos c4] at H
     have c4b0 : decide (0 ≤ x6_1) = true := decide_eq_true c4
     clear c4
     by_cases c5 : ((rd_T35 l0 x6_1).f0) = a1
     ·rw [if_pos c5] at H
      have c5b0 : (((rd_T35 l0 x6_1).f0) == a1) = true := beq_iff_eq.mpr c5
      have c5b1 : (((rd_T35 l0 x6_1).f0) != a1) = false := bne_eq_false_iff_eq.mpr c5
      clear c5
      obtain ⟨t827, A60, H⟩ := bsm H
      (try dsimp only at H)
      have A6 := am A60
      clear A60
      obtain ⟨t829, A70, H⟩ := bsm H
      (try dsimp only at H)
      have A7 := am A70
      clear A70
      have H' := am H
      clear H
      have p825 : 0 ≤ (x6_1 : Int) := of_decide_eq_true asm_
      have q825 : x6_1 < (l0.length : Int) := of_decide_eq_true asm_
      obtain ⟨ad825, A825_5, c825_5, A825_6, c825_6, A825_7, c825_7, e825, hx825_0, hx825_1, hx825_2, hx825_3, hx825_4, hx825_5, hx825_6, hx825_7, hl825_5, hi825_5, hl825_6, hi825_6, hl825_7, hi825_7⟩ := at_T35 HR0.out x6_1 p825 q825
      cases e825
      replace hx825_0 := (HB.out.cell (World.block_lt_of_cell? w _ hx825_0)).trans hx825_0
      replace hx825_1 := (HB.out.cell (World.block_lt_of_cell? w _ hx825_1)).trans hx825_1
      replace hx825_2 := (HB.out.cell (World.block_lt_of_cell? w _ hx825_2)).trans hx825_2
      replace hx825_3 := (HB.out.cell (World.block_lt_of_cell? w _ hx825_3)).trans hx825_3
      replace hx825_4 := (HB.out.cell (World.block_lt_of_cell? w _ hx825_4)).trans hx825_4
      replace hx825_5 := (HB.out.cell (World.block_lt_of_cell? w _ hx825_5)).trans hx825_5
      replace hx825_6 := (HB.out.cell (World.block_lt_of_cell? w _ hx825_6)).trans hx825_6
      replace hx825_7 := (HB.out.cell (World.block_lt_of_cell? w _ hx825_7)).trans hx825_7
      have HR825_5 := am hi825_5
      have HC825_5 := am hl825_5
      clear hi825_5 hl825_5
      have HR825_6 := am hi825_6
      have HC825_6 := am hl825_6
      clear hi825_6 hl825_6
      have HR825_7 := am hi825_7
      have HC825_7 := am hl825_7
      clear hi825_7 hl825_7
      replace p825 := eq_true p825
      replace q825 := eq_true q825
      try go_wp2
      replace HB := am (below_drew1 HB.out)
      have p826 : 0 ≤ (x6_1 : Int) := of_decide_eq_true asm_
      have q826 : x6_1 < (l0.length : Int) := of_decide_eq_true asm_
      obtain ⟨ad826, A826_5, c826_5, A826_6, c826_6, A826_7, c826_7, e826, hx826_0, hx826_1, hx826_2, hx826_3, hx826_4, hx826_5, hx826_6, hx826_7, hl826_5, hi826_5, hl826_6, hi826_6, hl826_7, hi826_7⟩ := at_T35 HR0.out x6_1 p826 q826
      have hw826_7 := hx826_7
      have hw826_6 := hx826_6
      have hw826_5 := hx826_5
      have hw826_4 := hx826_4
      have hw826_3 := hx826_3
      have hw826_2 := hx826_2
      have hw826_1 := hx826_1
      have hw826_0 := hx826_0
      obtain rfl : ad825 = ad826 := (by injection e826)
      replace hx826_0 := (HB.out.cell (World.block_lt_of_cell? w _ hx826_0)).trans hx826_0
      replace hx826_1 := (HB.out.cell (World.block_lt_of_cell? w _ hx826_1)).trans hx826_1
      replace hx826_2 := (HB.out.cell (World.block_lt_of_cell? w _ hx826_2)).trans hx826_2
      replace hx826_3 := (HB.out.cell (World.block_lt_of_cell? w _ hx826_3)).trans hx826_3
      replace hx826_4 := (HB.out.cell (World.block_lt_of_cell? w _ hx826_4)).trans hx826_4
      replace hx826_5 := (HB.out.cell (World.block_lt_of_cell? w _ hx826_5)).trans hx826_5
      replace hx826_6 := (HB.out.cell (World.block_lt_of_cell? w _ hx826_6)).trans hx826_6
      replace hx826_7 := (HB.out.cell (World.block_lt_of_cell? w _ hx826_7)).trans hx826_7
      have HR826_5 := am hi826_5
      have HC826_5 := am hl826_5
      clear hi826_5 hl826_5
      have HR826_6 := am hi826_6
      have HC826_6 := am hl826_6
      clear hi826_6 hl826_6
      have HR826_7 := am hi826_7
      have HC826_7 := am hl826_7
      clear hi826_7 hl826_7
      replace p826 := eq_true p826
      replace q826 := eq_true q826
      have p828 : 0 ≤ (x6_1 : Int) := of_decide_eq_true asm_
      have q828 : x6_1 < (l0.length : Int) := of_decide_eq_true asm_
      obtain ⟨ad828, A828_5, c828_5, A828_6, c828_6, A828_7, c828_7, e828, hx828_0, hx828_1, hx828_2, hx828_3, hx828_4, hx828_5, hx828_6, hx828_7, hl828_5, hi828_5, hl828_6, hi828_6, hl828_7, hi828_7⟩ := at_T35 HR0.out x6_1 p828 q828
      have hw828_7 := hx828_7
      have hw828_6 := hx828_6
      have hw828_5 := hx828_5
      have hw828_4 := hx828_4
      have hw828_3 := hx828_3
      have hw828_2 := hx828_2
      have hw828_1 := hx828_1
      have hw828_0 := hx828_0
      obtain rfl : ad825 = ad828 := (by injection e828)
      replace hx828_0 := (HB.out.cell (World.block_lt_of_cell? w _ hx828_0)).trans hx828_0
      replace hx828_1 := (HB.out.cell (World.block_lt_of_cell? w _ hx828_1)).trans hx828_1
      replace hx828_2 := (HB.out.cell (World.block_lt_of_cell? w _ hx828_2)).trans hx828_2
      replace hx828_3 := (HB.out.cell (World.block_lt_of_cell? w _ hx828_3)).trans hx828_3
      replace hx828_4 := (HB.out.cell (World.block_lt_of_cell? w _ hx828_4)).trans hx828_4
      replace hx828_5 := (HB.out.cell (World.block_lt_of_cell? w _ hx828_5)).trans hx828_5
      replace hx828_6 := (HB.out.cell (World.block_lt_of_cell? w _ hx828_6)).trans hx828_6
      replace hx828_7 := (HB.out.cell (World.block_lt_of_cell? w _ hx828_7)).trans hx828_7
      have HR828_5 := am hi828_5
      have HC828_5 := am hl828_5
      clear hi828_5 hl828_5
      have HR828_6 := am hi828_6
      have HC828_6 := am hl828_6
      clear hi828_6 hl828_6
      have HR828_7 := am hi828_7
      have HC828_7 := am hl828_7
      clear hi828_7 hl828_7
      replace p828 := eq_true p828
      replace q828 := eq_true q828
      have ea_ := Option.some.inj (hx826_5.symm.trans hx828_5)
      injection ea_ with ea_ en_ ec_
      subst ea_
      subst ec_
      clear en_
      have ea_ := Option.some.inj (hx826_6.symm.trans hx828_6)
      injection ea_ with ea_ en_ ec_
      subst ea_
      subst ec_
      clear en_
      have ea_ := Option.some.inj (hx826_7.symm.trans hx828_7)
      injection ea_ with ea_ en_ ec_
      subst ea_
      subst ec_
      clear en_
      refine start_ (n := 18) (S := fun w' => w'.cell? (ad825.add ((x6_1).toNat * 8)) = some (.int .i64 ((rd_T35 l0 x6_1).f0)) ∧ w'.cell? ⟨(ad825.add ((x6_1).toNat * 8)).block, (ad825.add ((x6_1).toNat * 8)).off + 1, none⟩ = some (.int .i64 ((rd_T35 l0 x6_1).f1)) ∧ w'.cell? ⟨(ad825.add ((x6_1).toNat * 8)).block, (ad825.add ((x6_1).toNat * 8)).off + 2, none⟩ = some (.int .i64 ((rd_T35 l0 x6_1).f2)) ∧ w'.cell? ⟨(ad825.add ((x6_1).toNat * 8)).block, (ad825.add ((x6_1).toNat * 8)).off + 3, none⟩ = some (.int .i64 ((rd_T35 l0 x6_1).f3.f0)) ∧ w'.cell? ⟨(ad825.add ((x6_1).toNat * 8)).block, (ad825.add ((x6_1).toNat * 8)).off + 4, none⟩ = some (.int .i64 ((rd_T35 l0 x6_1).f3.f1)) ∧ w'.cell? ⟨(ad825.add ((x6_1).toNat * 8)).block, (ad825.add ((x6_1).toNat * 8)).off + 5, none⟩ = some (.slice A826_5 ((rd_T35 l0 x6_1).f3.f2).length c826_5) ∧ w'.cell? ⟨(ad825.add ((x6_1).toNat * 8)).block, (ad825.add ((x6_1).toNat * 8)).off + 6, none⟩ = some (.slice A826_6 ((rd_T35 l0 x6_1).f4).length c826_6) ∧ w'.cell? ⟨(ad825.add ((x6_1).toNat * 8)).block, (ad825.add ((x6_1).toNat * 8)).off + 7, none⟩ = some (.slice A826_7 ((rd_T35 l0 x6_1).f5).length c826_7) ∧ w'.cell? (ad825.add ((x6_1).toNat * 8)) = some (.int .i64 ((rd_T35 l0 x6_1).f0)) ∧ w'.cell? ⟨(ad825.add ((x6_1).toNat * 8)).block, (ad825.add ((x6_1).toNat * 8)).off + 1, none⟩ = some (.int .i64 ((rd_T35 l0 x6_1).f1)) ∧ w'.cell? ⟨(ad825.add ((x6_1).toNat * 8)).block, (ad825.add ((x6_1).toNat * 8)).off + 2, none⟩ = some (.int .i64 ((rd_T35 l0 x6_1).f2)) ∧ w'.cell? ⟨(ad825.add ((x6_1).toNat * 8)).block, (ad825.add ((x6_1).toNat * 8)).off + 3, none⟩ = some (.int .i64 ((rd_T35 l0 x6_1).f3.f0)) ∧ w'.cell? ⟨(ad825.add ((x6_1).toNat * 8)).block, (ad825.add ((x6_1).toNat * 8)).off + 4, none⟩ = some (.int .i64 ((rd_T35 l0 x6_1).f3.f1)) ∧ w'.cell? ⟨(ad825.add ((x6_1).toNat * 8)).block, (ad825.add ((x6_1).toNat * 8)).off + 5, none⟩ = some (.slice A826_5 ((rd_T35 l0 x6_1).f3.f2).length c826_5) ∧ w'.cell? ⟨(ad825.add ((x6_1).toNat * 8)).block, (ad825.add ((x6_1).toNat * 8)).off + 6, none⟩ = some (.slice A826_6 ((rd_T35 l0 x6_1).f4).length c826_6) ∧ w'.cell? ⟨(ad825.add ((x6_1).toNat * 8)).block, (ad825.add ((x6_1).toNat * 8)).off + 7, none⟩ = some (.slice A826_7 ((rd_T35 l0 x6_1).f5).length c826_7)) (ds := []) #[false, false, false, false, false, false, false, false, false, false, false, false, false, false, false, false, false, false] (by kernel_rfl) rfl rfl ⟨((HB.out.cell (World.block_lt_of_cell? w _ hw826_0)).trans hw826_0), ((HB.out.cell (World.block_lt_of_cell? w _ hw826_1)).trans hw826_1), ((HB.out.cell (World.block_lt_of_cell? w _ hw826_2)).trans hw826_2), ((HB.out.cell (World.block_lt_of_cell? w _ hw826_3)).trans hw826_3), ((HB.out.cell (World.block_lt_of_cell? w _ hw826_4)).trans hw826_4), ((HB.out.cell (World.block_lt_of_cell? w _ hw826_5)).trans hw826_5), ((HB.out.cell (World.block_lt_of_cell? w _ hw826_6)).trans hw826_6), ((HB.out.cell (World.block_lt_of_cell? w _ hw826_7)).trans hw826_7), ((HB.out.cell (World.block_lt_of_cell? w _ hw828_0)).trans hw828_0), ((HB.out.cell (World.block_lt_of_cell? w _ hw828_1)).trans hw828_1), ((HB.out.cell (World.block_lt_of_cell? w _ hw828_2)).trans hw828_2), ((HB.out.cell (World.block_lt_of_cell? w _ hw828_3)).trans hw828_3), ((HB.out.cell (World.block_lt_of_cell? w _ hw828_4)).trans hw828_4), ((HB.out.cell (World.block_lt_of_cell? w _ hw828_5)).trans hw828_5), ((HB.out.cell (World.block_lt_of_cell? w _ hw828_6)).trans hw828_6), ((HB.out.cell (World.block_lt_of_cell? w _ hw828_7)).trans hw828_7)⟩ (fun hHeld => ?_); refine with_tabW laws_countKind.tab7 laws_countKind.bits7 (fun HT_ HW_ => ?_)
      generalize wr.drew = w8 at HB HR826_5 HR826_6 HR826_7 HR828_5 HR828_6 HR828_7 hx826_0 hx826_1 hx826_2 hx826_3 hx826_4 hx826_5 hx826_6 hx826_7 hx828_0 hx828_1 hx828_2 hx828_3 hx828_4 hx828_5 hx828_6 hx828_7 hHeld ⊢
      refine pure_ (i := 0) (N := some 22) (v := ?_) (a' := ?_) #[true, false, false, false, false, false, false, false, false, false, false, false, false, false, false, false, false, false] rfl rfl (any_of HT_.out (by kernel_rfl)) (fun _ _ _ h => h) (Or.inl ⟨by rfl, ?_⟩) ?_ ?_
      rotate_left
      ·intro w'
       go_simp
       with_reducible rfl
      rotate_left
      ·simp only [Act.put, List.setIfInBounds_toArray, List.set_cons_zero, List.set_cons_succ, i64_w, i32_w]
       rfl
      refine pure_ (i := 1) (N := some 23) (v := ?_) (a' := ?_) #[true, true, false, false, false, false, false, false, false, false, false, false, false, false, false, false, false, false] rfl rfl (any_of HT_.out (by kernel_rfl)) (fun _ _ _ h => h) (Or.inl ⟨by rfl, ?_⟩) ?_ ?_
      rotate_left
      ·intro w'
       go_simp
       with_reducible rfl
      rotate_left
      ·simp only [Act.put, List.setIfInBounds_toArray, List.set_cons_zero, List.set_cons_succ, i64_w, i32_w]
       rfl
      refine pure_ (i := 2) (N := some 24) (v := ?_) (a' := ?_) #[true, true, true, false, false, false, false, false, false, false, false, false, false, false, false, false, false, false] rfl rfl (any_of HT_.out (by kernel_rfl)) (fun _ _ _ h => h) (Or.inl ⟨by rfl, ?_⟩) ?_ ?_
      rotate_left
      ·intro w'
       go_simp
       with_reducible rfl
      rotate_left
      ·simp only [Act.put, List.setIfInBounds_toArray, List.set_cons_zero, List.set_cons_succ, i64_w, i32_w]
       rfl
      refine pure_ (i := 3) (N := some 25) (v := ?_) (a' := ?_) #[true, true, true, true, false, false, false, false, false, false, false, false, false, false, false, false, false, false] rfl rfl (any_of HT_.out (by kernel_rfl)) (fun _ _ _ h => h) (Or.inl ⟨by rfl, ?_⟩) ?_ ?_
      rotate_left
      ·intro w'
       go_simp
       with_reducible rfl
      rotate_left
      ·simp only [Act.put, List.setIfInBounds_toArray, List.set_cons_zero, List.set_cons_succ, i64_w, i32_w]
       rfl
      refine pure_ (i := 4) (N := some 26) (v := ?_) (a' := ?_) #[true, true, true, true, true, false, false, false, false, false, false, false, false, false, false, false, false, false] rfl rfl (any_of HT_.out (by kernel_rfl)) (fun _ _ _ h => h) (Or.inl ⟨by rfl, ?_⟩) ?_ ?_
      rotate_left
      ·intro w'
       go_simp
       with_reducible rfl
      rotate_left
      ·simp only [Act.put, List.setIfInBounds_toArray, List.set_cons_zero, List.set_cons_succ, i64_w, i32_w]
       rfl
      refine pure_ (i := 6) (N := some 28) (v := ?_) (a' := ?_) #[true, true, true, true, true, false, true, false, false, false, false, false, false, false, false, false, false, false] rfl rfl (any_of HT_.out (by kernel_rfl)) (fun _ _ _ h => h) (Or.inl ⟨by rfl, ?_⟩) ?_ ?_
      rotate_left
      ·intro w'
       go_simp
       with_reducible rfl
      rotate_left
      ·simp only [Act.put, List.setIfInBounds_toArray, List.set_cons_zero, List.set_cons_succ, i64_w, i32_w]
       rfl
      refine pure_ (i := 9) (N := some 31) (v := ?_) (a' := ?_) #[true, true, true, true, true, false, true, false, false, true, false, false, false, false, false, false, false, false] rfl rfl (any_of HT_.out (by kernel_rfl)) (fun _ _ _ h => h) (Or.inl ⟨by rfl, ?_⟩) ?_ ?_
      rotate_left
      ·intro w'
       go_simp
       with_reducible rfl
      rotate_left
      ·simp only [Act.put, List.setIfInBounds_toArray, List.set_cons_zero, List.set_cons_succ, i64_w, i32_w]
       rfl
      refine pure_ (i := 10) (N := some 32) (v := ?_) (a' := ?_) #[true, true, true, true, true, false, true, false, false, true, true, false, false, false, false, false, false, false] rfl rfl (any_of HT_.out (by kernel_rfl)) (fun _ _ _ h => h) (Or.inl ⟨by rfl, ?_⟩) ?_ ?_
      rotate_left
      ·intro w'
       go_simp
       with_reducible rfl
      rotate_left
      ·simp only [Act.put, List.setIfInBounds_toArray, List.set_cons_zero, List.set_cons_succ, i64_w, i32_w]
       rfl
      refine pure_ (i := 11) (N := some 33) (v := ?_) (a' := ?_) #[true, true, true, true, true, false, true, false, false, true, true, true, false, false, false, false, false, false] rfl rfl (any_of HT_.out (by kernel_rfl)) (fun _ _ _ h => h) (Or.inl ⟨by rfl, ?_⟩) ?_ ?_
      rotate_left
      ·intro w'
       go_simp
       with_reducible rfl
      rotate_left
      ·simp only [Act.put, List.setIfInBounds_toArray, List.set_cons_zero, List.set_cons_succ, i64_w, i32_w]
       rfl
      refine pure_ (i := 12) (N := some 34) (v := ?_) (a' := ?_) #[true, true, true, true, true, false, true, false, false, true, true, true, true, false, false, false, false, false] rfl rfl (any_of HT_.out (by kernel_rfl)) (fun _ _ _ h => h) (Or.inl ⟨by rfl, ?_⟩) ?_ ?_
      rotate_left
      ·intro w'
       go_simp
       with_reducible rfl
      rotate_left
      ·simp only [Act.put, List.setIfInBounds_toArray, List.set_cons_zero, List.set_cons_succ, i64_w, i32_w]
       rfl
      refine pure_ (i := 14) (N := some 36) (v := ?_) (a' := ?_) #[true, true, true, true, true, false, true, false, false, true, true, true, true, false, true, false, false, false] rfl rfl (any_of HT_.out (by kernel_rfl)) (fun _ _ _ h => h) (Or.inl ⟨by rfl, ?_⟩) ?_ ?_
      rotate_left
      ·intro w'
       go_simp
       with_reducible rfl
      rotate_left
      ·simp only [Act.put, List.setIfInBounds_toArray, List.set_cons_zero, List.set_cons_succ, i64_w, i32_w]
       rfl
      refine take_ (i := 5) (N := some 27) (v := ?_) (a' := ?_) #[true, true, true, true, true, true, true, false, false, true, true, true, true, false, true, false, false, false] rfl rfl (take_ofW HT_.out HW_.out (by kernel_rfl)) (fun _ _ _ h => h) (Or.inl ⟨by rfl, ?_⟩) hHeld ?_ ?_
      rotate_left
      ·rintro w' ⟨s0, s1, s2, s3, s4, s5, s6, s7, s8, s9, s10, s11, s12, s13, s14, s15⟩
       go_simp
       with_reducible rfl
      rotate_left
      ·simp only [Act.put, List.setIfInBounds_toArray, List.set_cons_zero, List.set_cons_succ, i64_w, i32_w]
       rfl
      refine take_ (i := 13) (N := some 35) (v := ?_) (a' := ?_) #[true, true, true, true, true, true, true, false, false, true, true, true, true, true, true, false, false, false] rfl rfl (take_ofW HT_.out HW_.out (by kernel_rfl)) (fun _ _ _ h => h) (Or.inl ⟨by rfl, ?_⟩) hHeld ?_ ?_
      rotate_left
      ·rintro w' ⟨s0, s1, s2, s3, s4, s5, s6, s7, s8, s9, s10, s11, s12, s13, s14, s15⟩
       go_simp
       with_reducible rfl
      rotate_left
      ·simp only [Act.put, List.setIfInBounds_toArray, List.set_cons_zero, List.set_cons_succ, i64_w, i32_w]
       rfl
      refine one_ (i := 7) (N := some 29) #[true, true, true, true, true, true, true, true, false, true, true, true, true, true, true, false, false, false] rfl rfl (one_of HT_.out (by kernel_rfl)) (by decide) (fun K hK => ?_)
      refine goes_ Try.func20 (by kernel_rfl) rfl #[.slice A826_6 ((rd_T35 l0 x6_1).f4).length c826_6, .int .i64 a1] (by rfl) rfl rfl ab1_ ?_
      with_reducible refine (ih k1 (by have := HK1.out; omega) _ _ ((rd_T35 l0 x6_1).f4) a1 t827 _ (aC_ (Kd.C_below HR826_6.out HB.out)) HC826_6.out A6.out).mono ?_
      rintro e w9 ⟨rfl, hb⟩
      refine ⟨_, rfl, ?_⟩
      replace HB := am (below_step ab2_ hb)
      (try clear hb)
      (try clear hb2)
      (try clear hk)
      (try clear hi)
      refine hK.out _ _ ⟨((HB.out.cell (World.block_lt_of_cell? w _ hw826_0)).trans hw826_0), ((HB.out.cell (World.block_lt_of_cell? w _ hw826_1)).trans hw826_1), ((HB.out.cell (World.block_lt_of_cell? w _ hw826_2)).trans hw826_2), ((HB.out.cell (World.block_lt_of_cell? w _ hw826_3)).trans hw826_3), ((HB.out.cell (World.block_lt_of_cell? w _ hw826_4)).trans hw826_4), ((HB.out.cell (World.block_lt_of_cell? w _ hw826_5)).trans hw826_5), ((HB.out.cell (World.block_lt_of_cell? w _ hw826_6)).trans hw826_6), ((HB.out.cell (World.block_lt_of_cell? w _ hw826_7)).trans hw826_7), ((HB.out.cell (World.block_lt_of_cell? w _ hw828_0)).trans hw828_0), ((HB.out.cell (World.block_lt_of_cell? w _ hw828_1)).trans hw828_1), ((HB.out.cell (World.block_lt_of_cell? w _ hw828_2)).trans hw828_2), ((HB.out.cell (World.block_lt_of_cell? w _ hw828_3)).trans hw828_3), ((HB.out.cell (World.block_lt_of_cell? w _ hw828_4)).trans hw828_4), ((HB.out.cell (World.block_lt_of_cell? w _ hw828_5)).trans hw828_5), ((HB.out.cell (World.block_lt_of_cell? w _ hw828_6)).trans hw828_6), ((HB.out.cell (World.block_lt_of_cell? w _ hw828_7)).trans hw828_7)⟩ (fun hHeld => ?_)
      clear hK K
      refine norm_ (a' := ?_) ?_ ?_
      rotate_left
      ·show Act.put _ (some 29) _ = _
       simp only [Act.put, List.setIfInBounds_toArray, List.set_cons_zero, List.set_cons_succ, i64_w, i32_w]
       rfl
      refine pure_ (i := 8) (N := some 30) (v := ?_) (a' := ?_) #[true, true, true, true, true, true, true, true, true, true, true, true, true, true, true, false, false, false] rfl rfl (any_of HT_.out (by kernel_rfl)) (fun _ _ _ h => h) (Or.inl ⟨by rfl, ?_⟩) ?_ ?_
      rotate_left
      ·intro w'
       go_simp
       with_reducible rfl
      rotate_left
      ·simp only [Act.put, List.setIfInBounds_toArray, List.set_cons_zero, List.set_cons_succ, i64_w, i32_w]
       rfl
      refine one_ (i := 15) (N := some 37) #[true, true, true, true, true, true, true, true, true, true, true, true, true, true, true, true, false, false] rfl rfl (one_of HT_.out (by kernel_rfl)) (by decide) (fun K hK => ?_)
      refine goes_ Try.func20 (by kernel_rfl) rfl #[.slice A826_7 ((rd_T35 l0 x6_1).f5).length c826_7, .int .i64 a1] (by rfl) rfl rfl ab1_ ?_
      with_reducible refine (ih k1 (by have := HK1.out; omega) _ _ ((rd_T35 l0 x6_1).f5) a1 t829 _ (aC_ (Kd.C_below HR828_7.out HB.out)) HC828_7.out A7.out).mono ?_
      rintro e w10 ⟨rfl, hb⟩
      refine ⟨_, rfl, ?_⟩
      replace HB := am (below_step ab2_ hb)
      (try clear hb)
      (try clear hb2)
      (try clear hk)
      (try clear hi)
      refine hK.out _ _ ⟨((HB.out.cell (World.block_lt_of_cell? w _ hw826_0)).trans hw826_0), ((HB.out.cell (World.block_lt_of_cell? w _ hw826_1)).trans hw826_1), ((HB.out.cell (World.block_lt_of_cell? w _ hw826_2)).trans hw826_2), ((HB.out.cell (World.block_lt_of_cell? w _ hw826_3)).trans hw826_3), ((HB.out.cell (World.block_lt_of_cell? w _ hw826_4)).trans hw826_4), ((HB.out.cell (World.block_lt_of_cell? w _ hw826_5)).trans hw826_5), ((HB.out.cell (World.block_lt_of_cell? w _ hw826_6)).trans hw826_6), ((HB.out.cell (World.block_lt_of_cell? w _ hw826_7)).trans hw826_7), ((HB.out.cell (World.block_lt_of_cell? w _ hw828_0)).trans hw828_0), ((HB.out.cell (World.block_lt_of_cell? w _ hw828_1)).trans hw828_1), ((HB.out.cell (World.block_lt_of_cell? w _ hw828_2)).trans hw828_2), ((HB.out.cell (World.block_lt_of_cell? w _ hw828_3)).trans hw828_3), ((HB.out.cell (World.block_lt_of_cell? w _ hw828_4)).trans hw828_4), ((HB.out.cell (World.block_lt_of_cell? w _ hw828_5)).trans hw828_5), ((HB.out.cell (World.block_lt_of_cell? w _ hw828_6)).trans hw828_6), ((HB.out.cell (World.block_lt_of_cell? w _ hw828_7)).trans hw828_7)⟩ (fun hHeld => ?_)
      clear hK K
      refine norm_ (a' := ?_) ?_ ?_
      rotate_left
      ·show Act.put _ (some 37) _ = _
       simp only [Act.put, List.setIfInBounds_toArray, List.set_cons_zero, List.set_cons_succ, i64_w, i32_w]
       rfl
      refine pure_ (i := 16) (N := some 38) (v := ?_) (a' := ?_) #[true, true, true, true, true, true, true, true, true, true, true, true, true, true, true, true, true, false] rfl rfl (any_of HT_.out (by kernel_rfl)) (fun _ _ _ h => h) (Or.inl ⟨by rfl, ?_⟩) ?_ ?_
      rotate_left
      ·intro w'
       go_simp
       with_reducible rfl
      rotate_left
      ·simp only [Act.put, List.setIfInBounds_toArray, List.set_cons_zero, List.set_cons_succ, i64_w, i32_w]
       rfl
      refine pure_ (i := 17) (N := some 5) (v := ?_) (a' := ?_) #[true, true, true, true, true, true, true, true, true, true, true, true, true, true, true, true, true, true] rfl rfl (any_of HT_.out (by kernel_rfl)) (fun _ _ _ h => h) (Or.inl ⟨by rfl, ?_⟩) ?_ ?_
      rotate_left
      ·intro w'
       go_simp
       with_reducible rfl
      rotate_left
      ·simp only [Act.put, List.setIfInBounds_toArray, List.set_cons_zero, List.set_cons_succ, i64_w, i32_w]
       rfl
      refine done_ (done_of HT_.out (by kernel_rfl)) ?_
      try go_wp2
      go_roundg k1
      case measure => have := HK1.out; omega
      case rel => exact ⟨(wrap64 ((wrap64 ((wrap64 (x5_1 + 1)) + t827)) + t829)), (wrap64 (x6_1 + 1)), sd_, sd_, H', ⟨by have := HK1.out; omega⟩, ⟨ab2_⟩⟩
     rw [if_neg c5] at H
     have c5b0 : (((rd_T35 l0 x6_1).f0) == a1) = false := beq_eq_false_iff_ne.mpr c5
     have c5b1 : (((rd_T35 l0 x6_1).f0) != a1) = true := bne_iff_ne.mpr c5
     obtain ⟨t831, A110, H⟩ := bsm H
     (try dsimp only at H)
     have A11 := am A110
     clear A110
     obtain ⟨t833, A120, H⟩ := bsm H
     (try dsimp only at H)
     have A12 := am A120
     clear A120
     have H' := am H
     clear H
     have p825 : 0 ≤ (x6_1 : Int) := of_decide_eq_true asm_
     have q825 : x6_1 < (l0.length : Int) := of_decide_eq_true asm_
     obtain ⟨ad825, A825_5, c825_5, A825_6, c825_6, A825_7, c825_7, e825, hx825_0, hx825_1, hx825_2, hx825_3, hx825_4, hx825_5, hx825_6, hx825_7, hl825_5, hi825_5, hl825_6, hi825_6, hl825_7, hi825_7⟩ := at_T35 HR0.out x6_1 p825 q825
     cases e825
     replace hx825_0 := (HB.out.cell (World.block_lt_of_cell? w _ hx825_0)).trans hx825_0
     replace hx825_1 := (HB.out.cell (World.block_lt_of_cell? w _ hx825_1)).trans hx825_1
     replace hx825_2 := (HB.out.cell (World.block_lt_of_cell? w _ hx825_2)).trans hx825_2
     replace hx825_3 := (HB.out.cell (World.block_lt_of_cell? w _ hx825_3)).trans hx825_3
     replace hx825_4 := (HB.out.cell (World.block_lt_of_cell? w _ hx825_4)).trans hx825_4
     replace hx825_5 := (HB.out.cell (World.block_lt_of_cell? w _ hx825_5)).trans hx825_5
     replace hx825_6 := (HB.out.cell (World.block_lt_of_cell? w _ hx825_6)).trans hx825_6
     replace hx825_7 := (HB.out.cell (World.block_lt_of_cell? w _ hx825_7)).trans hx825_7
     have HR825_5 := am hi825_5
     have HC825_5 := am hl825_5
     clear hi825_5 hl825_5
     have HR825_6 := am hi825_6
     have HC825_6 := am hl825_6
     clear hi825_6 hl825_6
     have HR825_7 := am hi825_7
     have HC825_7 := am hl825_7
     clear hi825_7 hl825_7
     replace p825 := eq_true p825
     replace q825 := eq_true q825
     try go_wp2
     replace HB := am (below_drew1 HB.out)
     have p830 : 0 ≤ (x6_1 : Int) := of_decide_eq_true asm_
     have q830 : x6_1 < (l0.length : Int) := of_decide_eq_true asm_
     obtain ⟨ad830, A830_5, c830_5, A830_6, c830_6, A830_7, c830_7, e830, hx830_0, hx830_1, hx830_2, hx830_3, hx830_4, hx830_5, hx830_6, hx830_7, hl830_5, hi830_5, hl830_6, hi830_6, hl830_7, hi830_7⟩ := at_T35 HR0.out x6_1 p830 q830
     have hw830_7 := hx830_7
     have hw830_6 := hx830_6
     have hw830_5 := hx830_5
     have hw830_4 := hx830_4
     have hw830_3 := hx830_3
     have hw830_2 := hx830_2
     have hw830_1 := hx830_1
     have hw830_0 := hx830_0
     obtain rfl : ad825 = ad830 := (by injection e830)
     replace hx830_0 := (HB.out.cell (World.block_lt_of_cell? w _ hx830_0)).trans hx830_0
     replace hx830_1 := (HB.out.cell (World.block_lt_of_cell? w _ hx830_1)).trans hx830_1
     replace hx830_2 := (HB.out.cell (World.block_lt_of_cell? w _ hx830_2)).trans hx830_2
     replace hx830_3 := (HB.out.cell (World.block_lt_of_cell? w _ hx830_3)).trans hx830_3
     replace hx830_4 := (HB.out.cell (World.block_lt_of_cell? w _ hx830_4)).trans hx830_4
     replace hx830_5 := (HB.out.cell (World.block_lt_of_cell? w _ hx830_5)).trans hx830_5
     replace hx830_6 := (HB.out.cell (World.block_lt_of_cell? w _ hx830_6)).trans hx830_6
     replace hx830_7 := (HB.out.cell (World.block_lt_of_cell? w _ hx830_7)).trans hx830_7
     have HR830_5 := am hi830_5
     have HC830_5 := am hl830_5
     clear hi830_5 hl830_5
     have HR830_6 := am hi830_6
     have HC830_6 := am hl830_6
     clear hi830_6 hl830_6
     have HR830_7 := am hi830_7
     have HC830_7 := am hl830_7
     clear hi830_7 hl830_7
     replace p830 := eq_true p830
     replace q830 := eq_true q830
     have p832 : 0 ≤ (x6_1 : Int) := of_decide_eq_true asm_
     have q832 : x6_1 < (l0.length : Int) := of_decide_eq_true asm_
     obtain ⟨ad832, A832_5, c832_5, A832_6, c832_6, A832_7, c832_7, e832, hx832_0, hx832_1, hx832_2, hx832_3, hx832_4, hx832_5, hx832_6, hx832_7, hl832_5, hi832_5, hl832_6, hi832_6, hl832_7, hi832_7⟩ := at_T35 HR0.out x6_1 p832 q832
     have hw832_7 := hx832_7
     have hw832_6 := hx832_6
     have hw832_5 := hx832_5
     have hw832_4 := hx832_4
     have hw832_3 := hx832_3
     have hw832_2 := hx832_2
     have hw832_1 := hx832_1
     have hw832_0 := hx832_0
     obtain rfl : ad825 = ad832 := (by injection e832)
     replace hx832_0 := (HB.out.cell (World.block_lt_of_cell? w _ hx832_0)).trans hx832_0
     replace hx832_1 := (HB.out.cell (World.block_lt_of_cell? w _ hx832_1)).trans hx832_1
     replace hx832_2 := (HB.out.cell (World.block_lt_of_cell? w _ hx832_2)).trans hx832_2
     replace hx832_3 := (HB.out.cell (World.block_lt_of_cell? w _ hx832_3)).trans hx832_3
     replace hx832_4 := (HB.out.cell (World.block_lt_of_cell? w _ hx832_4)).trans hx832_4
     replace hx832_5 := (HB.out.cell (World.block_lt_of_cell? w _ hx832_5)).trans hx832_5
     replace hx832_6 := (HB.out.cell (World.block_lt_of_cell? w _ hx832_6)).trans hx832_6
     replace hx832_7 := (HB.out.cell (World.block_lt_of_cell? w _ hx832_7)).trans hx832_7
     have HR832_5 := am hi832_5
     have HC832_5 := am hl832_5
     clear hi832_5 hl832_5
     have HR832_6 := am hi832_6
     have HC832_6 := am hl832_6
     clear hi832_6 hl832_6
     have HR832_7 := am hi832_7
     have HC832_7 := am hl832_7
     clear hi832_7 hl832_7
     replace p832 := eq_true p832
     replace q832 := eq_true q832
     have ea_ := Option.some.inj (hx830_5.symm.trans hx832_5)
     injection ea_ with ea_ en_ ec_
     subst ea_
     subst ec_
     clear en_
     have ea_ := Option.some.inj (hx830_6.symm.trans hx832_6)
     injection ea_ with ea_ en_ ec_
     subst ea_
     subst ec_
     clear en_
     have ea_ := Option.some.inj (hx830_7.symm.trans hx832_7)
     injection ea_ with ea_ en_ ec_
     subst ea_
     subst ec_
     clear en_
     refine start_ (n := 18) (S := fun w' => w'.cell? (ad825.add ((x6_1).toNat * 8)) = some (.int .i64 ((rd_T35 l0 x6_1).f0)) ∧ w'.cell? ⟨(ad825.add ((x6_1).toNat * 8)).block, (ad825.add ((x6_1).toNat * 8)).off + 1, none⟩ = some (.int .i64 ((rd_T35 l0 x6_1).f1)) ∧ w'.cell? ⟨(ad825.add ((x6_1).toNat * 8)).block, (ad825.add ((x6_1).toNat * 8)).off + 2, none⟩ = some (.int .i64 ((rd_T35 l0 x6_1).f2)) ∧ w'.cell? ⟨(ad825.add ((x6_1).toNat * 8)).block, (ad825.add ((x6_1).toNat * 8)).off + 3, none⟩ = some (.int .i64 ((rd_T35 l0 x6_1).f3.f0)) ∧ w'.cell? ⟨(ad825.add ((x6_1).toNat * 8)).block, (ad825.add ((x6_1).toNat * 8)).off + 4, none⟩ = some (.int .i64 ((rd_T35 l0 x6_1).f3.f1)) ∧ w'.cell? ⟨(ad825.add ((x6_1).toNat * 8)).block, (ad825.add ((x6_1).toNat * 8)).off + 5, none⟩ = some (.slice A830_5 ((rd_T35 l0 x6_1).f3.f2).length c830_5) ∧ w'.cell? ⟨(ad825.add ((x6_1).toNat * 8)).block, (ad825.add ((x6_1).toNat * 8)).off + 6, none⟩ = some (.slice A830_6 ((rd_T35 l0 x6_1).f4).length c830_6) ∧ w'.cell? ⟨(ad825.add ((x6_1).toNat * 8)).block, (ad825.add ((x6_1).toNat * 8)).off + 7, none⟩ = some (.slice A830_7 ((rd_T35 l0 x6_1).f5).length c830_7) ∧ w'.cell? (ad825.add ((x6_1).toNat * 8)) = some (.int .i64 ((rd_T35 l0 x6_1).f0)) ∧ w'.cell? ⟨(ad825.add ((x6_1).toNat * 8)).block, (ad825.add ((x6_1).toNat * 8)).off + 1, none⟩ = some (.int .i64 ((rd_T35 l0 x6_1).f1)) ∧ w'.cell? ⟨(ad825.add ((x6_1).toNat * 8)).block, (ad825.add ((x6_1).toNat * 8)).off + 2, none⟩ = some (.int .i64 ((rd_T35 l0 x6_1).f2)) ∧ w'.cell? ⟨(ad825.add ((x6_1).toNat * 8)).block, (ad825.add ((x6_1).toNat * 8)).off + 3, none⟩ = some (.int .i64 ((rd_T35 l0 x6_1).f3.f0)) ∧ w'.cell? ⟨(ad825.add ((x6_1).toNat * 8)).block, (ad825.add ((x6_1).toNat * 8)).off + 4, none⟩ = some (.int .i64 ((rd_T35 l0 x6_1).f3.f1)) ∧ w'.cell? ⟨(ad825.add ((x6_1).toNat * 8)).block, (ad825.add ((x6_1).toNat * 8)).off + 5, none⟩ = some (.slice A830_5 ((rd_T35 l0 x6_1).f3.f2).length c830_5) ∧ w'.cell? ⟨(ad825.add ((x6_1).toNat * 8)).block, (ad825.add ((x6_1).toNat * 8)).off + 6, none⟩ = some (.slice A830_6 ((rd_T35 l0 x6_1).f4).length c830_6) ∧ w'.cell? ⟨(ad825.add ((x6_1).toNat * 8)).block, (ad825.add ((x6_1).toNat * 8)).off + 7, none⟩ = some (.slice A830_7 ((rd_T35 l0 x6_1).f5).length c830_7)) (ds := []) #[false, false, false, false, false, false, false, false, false, false, false, false, false, false, false, false, false, false] (by kernel_rfl) rfl rfl ⟨((HB.out.cell (World.block_lt_of_cell? w _ hw830_0)).trans hw830_0), ((HB.out.cell (World.block_lt_of_cell? w _ hw830_1)).trans hw830_1), ((HB.out.cell (World.block_lt_of_cell? w _ hw830_2)).trans hw830_2), ((HB.out.cell (World.block_lt_of_cell? w _ hw830_3)).trans hw830_3), ((HB.out.cell (World.block_lt_of_cell? w _ hw830_4)).trans hw830_4), ((HB.out.cell (World.block_lt_of_cell? w _ hw830_5)).trans hw830_5), ((HB.out.cell (World.block_lt_of_cell? w _ hw830_6)).trans hw830_6), ((HB.out.cell (World.block_lt_of_cell? w _ hw830_7)).trans hw830_7), ((HB.out.cell (World.block_lt_of_cell? w _ hw832_0)).trans hw832_0), ((HB.out.cell (World.block_lt_of_cell? w _ hw832_1)).trans hw832_1), ((HB.out.cell (World.block_lt_of_cell? w _ hw832_2)).trans hw832_2), ((HB.out.cell (World.block_lt_of_cell? w _ hw832_3)).trans hw832_3), ((HB.out.cell (World.block_lt_of_cell? w _ hw832_4)).trans hw832_4), ((HB.out.cell (World.block_lt_of_cell? w _ hw832_5)).trans hw832_5), ((HB.out.cell (World.block_lt_of_cell? w _ hw832_6)).trans hw832_6), ((HB.out.cell (World.block_lt_of_cell? w _ hw832_7)).trans hw832_7)⟩ (fun hHeld => ?_); refine with_tabW laws_countKind.tab7 laws_countKind.bits7 (fun HT_ HW_ => ?_)
     generalize wr.drew = w13 at HB HR830_5 HR830_6 HR830_7 HR832_5 HR832_6 HR832_7 hx830_0 hx830_1 hx830_2 hx830_3 hx830_4 hx830_5 hx830_6 hx830_7 hx832_0 hx832_1 hx832_2 hx832_3 hx832_4 hx832_5 hx832_6 hx832_7 hHeld ⊢
     refine pure_ (i := 0) (N := some 22) (v := ?_) (a' := ?_) #[true, false, false, false, false, false, false, false, false, false, false, false, false, false, false, false, false, false] rfl rfl (any_of HT_.out (by kernel_rfl)) (fun _ _ _ h => h) (Or.inl ⟨by rfl, ?_⟩) ?_ ?_
     rotate_left
     ·intro w'
      go_simp
      with_reducible rfl
     rotate_left
     ·simp only [Act.put, List.setIfInBounds_toArray, List.set_cons_zero, List.set_cons_succ, i64_w, i32_w]
      rfl
     refine pure_ (i := 1) (N := some 23) (v := ?_) (a' := ?_) #[true, true, false, false, false, false, false, false, false, false, false, false, false, false, false, false, false, false] rfl rfl (any_of HT_.out (by kernel_rfl)) (fun _ _ _ h => h) (Or.inl ⟨by rfl, ?_⟩) ?_ ?_
     rotate_left
     ·intro w'
      go_simp
      with_reducible rfl
     rotate_left
     ·simp only [Act.put, List.setIfInBounds_toArray, List.set_cons_zero, List.set_cons_succ, i64_w, i32_w]
      rfl
     refine pure_ (i := 2) (N := some 24) (v := ?_) (a' := ?_) #[true, true, true, false, false, false, false, false, false, false, false, false, false, false, false, false, false, false] rfl rfl (any_of HT_.out (by kernel_rfl)) (fun _ _ _ h => h) (Or.inl ⟨by rfl, ?_⟩) ?_ ?_
     rotate_left
     ·intro w'
      go_simp
      with_reducible rfl
     rotate_left
     ·simp only [Act.put, List.setIfInBounds_toArray, List.set_cons_zero, List.set_cons_succ, i64_w, i32_w]
      rfl
     refine pure_ (i := 3) (N := some 25) (v := ?_) (a' := ?_) #[true, true, true, true, false, false, false, false, false, false, false, false, false, false, false, false, false, false] rfl rfl (any_of HT_.out (by kernel_rfl)) (fun _ _ _ h => h) (Or.inl ⟨by rfl, ?_⟩) ?_ ?_
     rotate_left
     ·intro w'
      go_simp
      with_reducible rfl
     rotate_left
     ·simp only [Act.put, List.setIfInBounds_toArray, List.set_cons_zero, List.set_cons_succ, i64_w, i32_w]
      rfl
     refine pure_ (i := 4) (N := some 26) (v := ?_) (a' := ?_) #[true, true, true, true, true, false, false, false, false, false, false, false, false, false, false, false, false, false] rfl rfl (any_of HT_.out (by kernel_rfl)) (fun _ _ _ h => h) (Or.inl ⟨by rfl, ?_⟩) ?_ ?_
     rotate_left
     ·intro w'
      go_simp
      with_reducible rfl
     rotate_left
     ·simp only [Act.put, List.setIfInBounds_toArray, List.set_cons_zero, List.set_cons_succ, i64_w, i32_w]
      rfl
     refine pure_ (i := 6) (N := some 28) (v := ?_) (a' := ?_) #[true, true, true, true, true, false, true, false, false, false, false, false, false, false, false, false, false, false] rfl rfl (any_of HT_.out (by kernel_rfl)) (fun _ _ _ h => h) (Or.inl ⟨by rfl, ?_⟩) ?_ ?_
     rotate_left
     ·intro w'
      go_simp
      with_reducible rfl
     rotate_left
     ·simp only [Act.put, List.setIfInBounds_toArray, List.set_cons_zero, List.set_cons_succ, i64_w, i32_w]
      rfl
     refine pure_ (i := 9) (N := some 31) (v := ?_) (a' := ?_) #[true, true, true, true, true, false, true, false, false, true, false, false, false, false, false, false, false, false] rfl rfl (any_of HT_.out (by kernel_rfl)) (fun _ _ _ h => h) (Or.inl ⟨by rfl, ?_⟩) ?_ ?_
     rotate_left
     ·intro w'
      go_simp
      with_reducible rfl
     rotate_left
     ·simp only [Act.put, List.setIfInBounds_toArray, List.set_cons_zero, List.set_cons_succ, i64_w, i32_w]
      rfl
     refine pure_ (i := 10) (N := some 32) (v := ?_) (a' := ?_) #[true, true, true, true, true, false, true, false, false, true, true, false, false, false, false, false, false, false] rfl rfl (any_of HT_.out (by kernel_rfl)) (fun _ _ _ h => h) (Or.inl ⟨by rfl, ?_⟩) ?_ ?_
     rotate_left
     ·intro w'
      go_simp
      with_reducible rfl
     rotate_left
     ·simp only [Act.put, List.setIfInBounds_toArray, List.set_cons_zero, List.set_cons_succ, i64_w, i32_w]
      rfl
     refine pure_ (i := 11) (N := some 33) (v := ?_) (a' := ?_) #[true, true, true, true, true, false, true, false, false, true, true, true, false, false, false, false, false, false] rfl rfl (any_of HT_.out (by kernel_rfl)) (fun _ _ _ h => h) (Or.inl ⟨by rfl, ?_⟩) ?_ ?_
     rotate_left
     ·intro w'
      go_simp
      with_reducible rfl
     rotate_left
     ·simp only [Act.put, List.setIfInBounds_toArray, List.set_cons_zero, List.set_cons_succ, i64_w, i32_w]
      rfl
     refine pure_ (i := 12) (N := some 34) (v := ?_) (a' := ?_) #[true, true, true, true, true, false, true, false, false, true, true, true, true, false, false, false, false, false] rfl rfl (any_of HT_.out (by kernel_rfl)) (fun _ _ _ h => h) (Or.inl ⟨by rfl, ?_⟩) ?_ ?_
     rotate_left
     ·intro w'
      go_simp
      with_reducible rfl
     rotate_left
     ·simp only [Act.put, List.setIfInBounds_toArray, List.set_cons_zero, List.set_cons_succ, i64_w, i32_w]
      rfl
     refine pure_ (i := 14) (N := some 36) (v := ?_) (a' := ?_) #[true, true, true, true, true, false, true, false, false, true, true, true, true, false, true, false, false, false] rfl rfl (any_of HT_.out (by kernel_rfl)) (fun _ _ _ h => h) (Or.inl ⟨by rfl, ?_⟩) ?_ ?_
     rotate_left
     ·intro w'
      go_simp
      with_reducible rfl
     rotate_left
     ·simp only [Act.put, List.setIfInBounds_toArray, List.set_cons_zero, List.set_cons_succ, i64_w, i32_w]
      rfl
     refine take_ (i := 5) (N := some 27) (v := ?_) (a' := ?_) #[true, true, true, true, true, true, true, false, false, true, true, true, true, false, true, false, false, false] rfl rfl (take_ofW HT_.out HW_.out (by kernel_rfl)) (fun _ _ _ h => h) (Or.inl ⟨by rfl, ?_⟩) hHeld ?_ ?_
     rotate_left
     ·rintro w' ⟨s0, s1, s2, s3, s4, s5, s6, s7, s8, s9, s10, s11, s12, s13, s14, s15⟩
      go_simp
      with_reducible rfl
     rotate_left
     ·simp only [Act.put, List.setIfInBounds_toArray, List.set_cons_zero, List.set_cons_succ, i64_w, i32_w]
      rfl
     refine take_ (i := 13) (N := some 35) (v := ?_) (a' := ?_) #[true, true, true, true, true, true, true, false, false, true, true, true, true, true, true, false, false, false] rfl rfl (take_ofW HT_.out HW_.out (by kernel_rfl)) (fun _ _ _ h => h) (Or.inl ⟨by rfl, ?_⟩) hHeld ?_ ?_
     rotate_left
     ·rintro w' ⟨s0, s1, s2, s3, s4, s5, s6, s7, s8, s9, s10, s11, s12, s13, s14, s15⟩
      go_simp
      with_reducible rfl
     rotate_left
     ·simp only [Act.put, List.setIfInBounds_toArray, List.set_cons_zero, List.set_cons_succ, i64_w, i32_w]
      rfl
     refine one_ (i := 7) (N := some 29) #[true, true, true, true, true, true, true, true, false, true, true, true, true, true, true, false, false, false] rfl rfl (one_of HT_.out (by kernel_rfl)) (by decide) (fun K hK => ?_)
     refine goes_ Try.func20 (by kernel_rfl) rfl #[.slice A830_6 ((rd_T35 l0 x6_1).f4).length c830_6, .int .i64 a1] (by rfl) rfl rfl ab1_ ?_
     with_reducible refine (ih k1 (by have := HK1.out; omega) _ _ ((rd_T35 l0 x6_1).f4) a1 t831 _ (aC_ (Kd.C_below HR830_6.out HB.out)) HC830_6.out A11.out).mono ?_
     rintro e w14 ⟨rfl, hb⟩
     refine ⟨_, rfl, ?_⟩
     replace HB := am (below_step ab2_ hb)
     (try clear hb)
     (try clear hb2)
     (try clear hk)
     (try clear hi)
     refine hK.out _ _ ⟨((HB.out.cell (World.block_lt_of_cell? w _ hw830_0)).trans hw830_0), ((HB.out.cell (World.block_lt_of_cell? w _ hw830_1)).trans hw830_1), ((HB.out.cell (World.block_lt_of_cell? w _ hw830_2)).trans hw830_2), ((HB.out.cell (World.block_lt_of_cell? w _ hw830_3)).trans hw830_3), ((HB.out.cell (World.block_lt_of_cell? w _ hw830_4)).trans hw830_4), ((HB.out.cell (World.block_lt_of_cell? w _ hw830_5)).trans hw830_5), ((HB.out.cell (World.block_lt_of_cell? w _ hw830_6)).trans hw830_6), ((HB.out.cell (World.block_lt_of_cell? w _ hw830_7)).trans hw830_7), ((HB.out.cell (World.block_lt_of_cell? w _ hw832_0)).trans hw832_0), ((HB.out.cell (World.block_lt_of_cell? w _ hw832_1)).trans hw832_1), ((HB.out.cell (World.block_lt_of_cell? w _ hw832_2)).trans hw832_2), ((HB.out.cell (World.block_lt_of_cell? w _ hw832_3)).trans hw832_3), ((HB.out.cell (World.block_lt_of_cell? w _ hw832_4)).trans hw832_4), ((HB.out.cell (World.block_lt_of_cell? w _ hw832_5)).trans hw832_5), ((HB.out.cell (World.block_lt_of_cell? w _ hw832_6)).trans hw832_6), ((HB.out.cell (World.block_lt_of_cell? w _ hw832_7)).trans hw832_7)⟩ (fun hHeld => ?_)
     clear hK K
     refine norm_ (a' := ?_) ?_ ?_
     rotate_left
     ·show Act.put _ (some 29) _ = _
      simp only [Act.put, List.setIfInBounds_toArray, List.set_cons_zero, List.set_cons_succ, i64_w, i32_w]
      rfl
     refine pure_ (i := 8) (N := some 30) (v := ?_) (a' := ?_) #[true, true, true, true, true, true, true, true, true, true, true, true, true, true, true, false, false, false] rfl rfl (any_of HT_.out (by kernel_rfl)) (fun _ _ _ h => h) (Or.inl ⟨by rfl, ?_⟩) ?_ ?_
     rotate_left
     ·intro w'
      go_simp
      with_reducible rfl
     rotate_left
     ·simp only [Act.put, List.setIfInBounds_toArray, List.set_cons_zero, List.set_cons_succ, i64_w, i32_w]
      rfl
     refine one_ (i := 15) (N := some 37) #[true, true, true, true, true, true, true, true, true, true, true, true, true, true, true, true, false, false] rfl rfl (one_of HT_.out (by kernel_rfl)) (by decide) (fun K hK => ?_)
     refine goes_ Try.func20 (by kernel_rfl) rfl #[.slice A830_7 ((rd_T35 l0 x6_1).f5).length c830_7, .int .i64 a1] (by rfl) rfl rfl ab1_ ?_
     with_reducible refine (ih k1 (by have := HK1.out; omega) _ _ ((rd_T35 l0 x6_1).f5) a1 t833 _ (aC_ (Kd.C_below HR832_7.out HB.out)) HC832_7.out A12.out).mono ?_
     rintro e w15 ⟨rfl, hb⟩
     refine ⟨_, rfl, ?_⟩
     replace HB := am (below_step ab2_ hb)
     (try clear hb)
     (try clear hb2)
     (try clear hk)
     (try clear hi)
     refine hK.out _ _ ⟨((HB.out.cell (World.block_lt_of_cell? w _ hw830_0)).trans hw830_0), ((HB.out.cell (World.block_lt_of_cell? w _ hw830_1)).trans hw830_1), ((HB.out.cell (World.block_lt_of_cell? w _ hw830_2)).trans hw830_2), ((HB.out.cell (World.block_lt_of_cell? w _ hw830_3)).trans hw830_3), ((HB.out.cell (World.block_lt_of_cell? w _ hw830_4)).trans hw830_4), ((HB.out.cell (World.block_lt_of_cell? w _ hw830_5)).trans hw830_5), ((HB.out.cell (World.block_lt_of_cell? w _ hw830_6)).trans hw830_6), ((HB.out.cell (World.block_lt_of_cell? w _ hw830_7)).trans hw830_7), ((HB.out.cell (World.block_lt_of_cell? w _ hw832_0)).trans hw832_0), ((HB.out.cell (World.block_lt_of_cell? w _ hw832_1)).trans hw832_1), ((HB.out.cell (World.block_lt_of_cell? w _ hw832_2)).trans hw832_2), ((HB.out.cell (World.block_lt_of_cell? w _ hw832_3)).trans hw832_3), ((HB.out.cell (World.block_lt_of_cell? w _ hw832_4)).trans hw832_4), ((HB.out.cell (World.block_lt_of_cell? w _ hw832_5)).trans hw832_5), ((HB.out.cell (World.block_lt_of_cell? w _ hw832_6)).trans hw832_6), ((HB.out.cell (World.block_lt_of_cell? w _ hw832_7)).trans hw832_7)⟩ (fun hHeld => ?_)
     clear hK K
     refine norm_ (a' := ?_) ?_ ?_
     rotate_left
     ·show Act.put _ (some 37) _ = _
      simp only [Act.put, List.setIfInBounds_toArray, List.set_cons_zero, List.set_cons_succ, i64_w, i32_w]
      rfl
     refine pure_ (i := 16) (N := some 38) (v := ?_) (a' := ?_) #[true, true, true, true, true, true, true, true, true, true, true, true, true, true, true, true, true, false] rfl rfl (any_of HT_.out (by kernel_rfl)) (fun _ _ _ h => h) (Or.inl ⟨by rfl, ?_⟩) ?_ ?_
     rotate_left
     ·intro w'
      go_simp
      with_reducible rfl
     rotate_left
     ·simp only [Act.put, List.setIfInBounds_toArray, List.set_cons_zero, List.set_cons_succ, i64_w, i32_w]
      rfl
     refine pure_ (i := 17) (N := some 5) (v := ?_) (a' := ?_) #[true, true, true, true, true, true, true, true, true, true, true, true, true, true, true, true, true, true] rfl rfl (any_of HT_.out (by kernel_rfl)) (fun _ _ _ h => h) (Or.inl ⟨by rfl, ?_⟩) ?_ ?_
     rotate_left
     ·intro w'
      go_simp
      with_reducible rfl
     rotate_left
     ·simp only [Act.put, List.setIfInBounds_toArray, List.set_cons_zero, List.set_cons_succ, i64_w, i32_w]
      rfl
     refine done_ (done_of HT_.out (by kernel_rfl)) ?_
     try go_wp2
     go_roundg k1
     case measure => have := HK1.out; omega
     case rel => exact ⟨(wrap64 ((wrap64 (x5_1 + t831)) + t833)), (wrap64 (x6_1 + 1)), sd_, sd_, H', ⟨by have := HK1.out; omega⟩, ⟨ab2_⟩⟩
    rw [if_neg c4] at H
    exact absurd H (by simp)
   rw [if_neg c3] at H
   have c3b0 : decide (x6_1 < (l0.length : Int)) = false := decide_eq_false c3
   clear c3
   obtain rfl := Option.some.inj H
   go_wp2
   go_ret
   exact ⟨rr_, ab2_⟩
theorem laws_FnStmtsFoldIf.mono_l : ∀ k, (∀ y0 y1 y2 y3 y4 y5, LeO (laws_FnStmtsFoldIf.j0 k y0 y1 y2 y3 y4 y5) (laws_FnStmtsFoldIf.j0 (k + 1) y0 y1 y2 y3 y4 y5))
 | 0 => fun _ _ _ _ _ _ r h => by simp [laws_FnStmtsFoldIf.j0] at h
 | k + 1 => by
  have ih0 := laws_FnStmtsFoldIf.mono_l k
  ·intro y0 y1 y2 y3 y4 y5
   unfold laws_FnStmtsFoldIf.j0
   repeat' first
   | (with_reducible exact ih0 _ _ _ _ _ _)
   | (with_reducible exact impl_StmtsFold.mono _ _)
   | (with_reducible exact laws_countKind.mono _ _ _)
   | (with_reducible exact laws_openIf.mono _ _)
   | (with_reducible exact laws_sameStmts.mono _ _ _)
   | (with_reducible exact spec_DrawStmtsFold.mono _ _)
   | (with_reducible exact spec_StmtsFold.mono _ _)
   | (with_reducible exact LeO.refl _)
   | (with_reducible exact LeO.none _)
   | (with_reducible refine LeO.ite ?_ ?_)
   | (with_reducible refine LeO.bind ?_ (fun _ => ?_))
theorem laws_FnStmtsFoldIf.mono : ∀ a0 k, LeO (laws_FnStmtsFoldIf.f k a0) (laws_FnStmtsFoldIf.f (k + 1) a0) := by
 intro a0 k
 have ih0 := laws_FnStmtsFoldIf.mono_l k
 unfold laws_FnStmtsFoldIf.f
 repeat' first
   | (with_reducible exact ih0 _ _ _ _ _ _)
   | (with_reducible exact impl_StmtsFold.mono _ _)
   | (with_reducible exact laws_countKind.mono _ _ _)
   | (with_reducible exact laws_openIf.mono _ _)
   | (with_reducible exact laws_sameStmts.mono _ _ _)
   | (with_reducible exact spec_DrawStmtsFold.mono _ _)
   | (with_reducible exact spec_StmtsFold.mono _ _)
   | (with_reducible exact LeO.refl _)
   | (with_reducible exact LeO.none _)
   | (with_reducible refine LeO.ite ?_ ?_)
   | (with_reducible refine LeO.bind ?_ (fun _ => ?_))
theorem laws_FnStmtsFoldIf.calls (k : Nat) (A0 : Option Addr) (c0 : Nat) (l0 : List Int) (r : Bool) (w : World) (hr0 : Kd.C (Kd.int .u8) w A0 l0.length l0) (hc0 : l0.length ≤ c0) (h : laws_FnStmtsFoldIf.f k l0 = some r) :
  Calls Try.prog 7 #[.slice A0 l0.length c0] w fun e w' => e = .returned (.bool r) ∧ Below w.heap.size w w' := by
 have HR0 := am hr0
 have HC0 := am hc0
 clear hr0 hc0
 have HB := am (Below.refl w.heap.size w)
 have H : (if (l0.length : Int) > 1048576 then (some true) else ((spec_DrawStmtsFold.f k l0).bind fun t834 => ((impl_StmtsFold.f k t834).bind fun bt837 => ((spec_StmtsFold.f k t834).bind fun bt841 => (if (bt837.2 != bt841.2) = true then (laws_FnStmtsFoldIf.j0 k t834 bt837.1 bt837.2 bt841.1 bt841.2 true) else ((laws_sameStmts.f k bt837.1 bt841.1).bind fun t845 => (if t845 = true then (laws_FnStmtsFoldIf.j0 k t834 bt837.1 bt837.2 bt841.1 bt841.2 (!bt837.2)) else (laws_FnStmtsFoldIf.j0 k t834 bt837.1 bt837.2 bt841.1 bt841.2 true)))))))) = some r := h
 clear h
 by_cases c2 : (l0.length : Int) > 1048576
 ·rw [if_pos c2] at H
  have c2b0 : decide (1048576 < (l0.length : Int)) = true := decide_eq_true c2
  have c2b1 : decide (1048576 < l0.length) = true := decide_eq_true (by omega)
  clear c2
  obtain rfl := Option.some.inj H
  go_enter Try.func7, Try.ntmps7
  go_wp2
  go_ret
  exact ⟨rr_, ab2_⟩
 rw [if_neg c2] at H
 have c2b0 : decide (1048576 < (l0.length : Int)) = false := decide_eq_false c2
 have c2b1 : decide (1048576 < l0.length) = false := decide_eq_false (by omega)
 clear c2
 obtain ⟨t834, A30, H⟩ := bsm H
 (try dsimp only at H)
 have A3 := am A30
 clear A30
 obtain ⟨⟨t837, t840⟩, A40, H⟩ := bsm H
 (try dsimp only at H)
 have A4 := am A40
 clear A40
 obtain ⟨⟨t841, t844⟩, A50, H⟩ := bsm H
 (try dsimp only at H)
 have A5 := am A50
 clear A50
 have HC6 := am H
 clear H
 go_enter Try.func7, Try.ntmps7
 go_upto_region 6 with (first | ((with_reducible refine gate_callee (f := 12) rfl ?_); refine goesL_ (some 12) rfl rfl Try.func12 (by kernel_rfl) rfl #[.slice A0 l0.length c0] rfl ab1_ ?_; (with_reducible refine (spec_DrawStmtsFold.calls k _ _ l0 t834 _ ?side1 HC0.out A3.out).mono ?_); (case side1 => repeat (first | exact HR0.out | (with_reducible refine Kd.C_alloc ?_ _) | (with_reducible refine Kd.C_drewN ?_ _) | (with_reducible refine Kd.C_drew ?_))); rintro e w7 ⟨v835, rfl, ho0, hb⟩; refine ⟨_, rfl, ?_⟩; have HO836 := am (Kd.N_lower (Kd.N_mono (ok' := fun k_ => True) ho0 (fun k_ hk_ => trivial)) (below_size ab2_)); replace HB := am (below_step ab2_ hb); (try clear hb); (try clear hb2); (try clear hk); (try clear hi); (try clear ho0); obtain ⟨Ao8, co8, eo8⟩ := Kd.N_slice HO836.out; subst eo8) | ((with_reducible refine gate_callee (f := 13) rfl ?_); refine goesL_ (some 15) rfl rfl Try.func13 (by kernel_rfl) rfl #[.slice Ao8 t834.length co8] rfl ab1_ ?_; (with_reducible refine (impl_StmtsFold.calls k _ _ t834 t837 t840 _ ?side1 ?side2 A4.out).mono ?_); (case side1 => repeat (first | exact (Kd.N_reads' HO836.out).2.2 | (with_reducible refine Kd.C_alloc ?_ _) | (with_reducible refine Kd.C_drewN ?_ _) | (with_reducible refine Kd.C_drew ?_))); (case side2 => exact (Kd.N_reads' HO836.out).2.1); rintro e w9 ⟨v838, rfl, ho0, hb⟩; refine ⟨_, rfl, ?_⟩; have HO839 := am (Kd.N_lower (Kd.N_mono (ok' := fun k_ => some k_ ≠ (.slice Ao8 t834.length co8 : Value).ownBlock) ho0 (fun k_ hk_ => (Kd.fresh' (Kd.N_lt (aN_ HO836.out)) k_ hk_))) (below_size ab2_)); replace HO836 := am (Kd.N_elder' (aN_ HO836.out) (by first | exact Kd.N_base ho0 | exact Kd.N_base (Kd.R_N ho0)) hb); replace HB := am (below_step ab2_ hb); (try clear hb); (try clear hb2); (try clear hk); (try clear hi); (try clear ho0)) | ((with_reducible refine gate_callee (f := 14) rfl ?_); refine goesL_ (some 20) rfl rfl Try.func14 (by kernel_rfl) rfl #[.slice Ao8 t834.length co8] rfl ab1_ ?_; (with_reducible refine (spec_StmtsFold.calls k _ _ t834 t841 t844 _ ?side1 ?side2 A5.out).mono ?_); (case side1 => repeat (first | exact (Kd.N_reads' HO836.out).2.2 | (with_reducible refine Kd.C_alloc ?_ _) | (with_reducible refine Kd.C_drewN ?_ _) | (with_reducible refine Kd.C_drew ?_))); (case side2 => exact (Kd.N_reads' HO836.out).2.1); rintro e w10 ⟨v842, rfl, ho0, hb⟩; refine ⟨_, rfl, ?_⟩; have HO843 := am (Kd.N_lower (Kd.N_mono (ok' := fun k_ => some k_ ≠ (.slice Ao8 t834.length co8 : Value).ownBlock ∧ some k_ ≠ (v838 : Value).ownBlock) ho0 (fun k_ hk_ => ⟨(Kd.fresh' (Kd.N_lt (aN_ HO836.out)) k_ hk_), (Kd.fresh' (Kd.N_lt (aN_ HO839.out)) k_ hk_)⟩)) (below_size ab2_)); replace HO836 := am (Kd.N_elder' (aN_ HO836.out) (by first | exact Kd.N_base ho0 | exact Kd.N_base (Kd.R_N ho0)) hb); replace HO839 := am (Kd.N_elder' (aN_ HO839.out) (by first | exact Kd.N_base ho0 | exact Kd.N_base (Kd.R_N ho0)) hb); replace HB := am (below_step ab2_ hb); (try clear hb); (try clear hb2); (try clear hk); (try clear hi); (try clear ho0)))
 (try simp only [Act.put, List.setIfInBounds_toArray, List.set_cons_zero, List.set_cons_succ])
 go_cut [35] (fun v35 wc => ∃ (kq : Nat) (x35_5 : Bool), v35 = .bool x35_5 ∧ Aside0 (laws_FnStmtsFoldIf.j0 kq t834 t837 t840 t841 t844 x35_5 = some r) ∧ Aside0 (kq ≤ k) ∧ Aside0 (Kd.N k35 35 wc w.heap.size (fun k_ => some k_ ≠ (v838 : Value).ownBlock ∧ some k_ ≠ (v842 : Value).ownBlock) (.slice Ao8 t834.length co8) t834) ∧ Aside0 (Kd.N k35 35 wc w.heap.size (fun k_ => some k_ ≠ ((.slice Ao8 t834.length co8) : Value).ownBlock ∧ some k_ ≠ (v842 : Value).ownBlock) v838 t837) ∧ Aside0 (Kd.N k35 35 wc w.heap.size (fun k_ => some k_ ≠ ((.slice Ao8 t834.length co8) : Value).ownBlock ∧ some k_ ≠ (v838 : Value).ownBlock) v842 t841) ∧ Aside0 (Below w.heap.size w wc))
 case first =>
  have H := HC6.out
  clear HC6
  by_cases c11 : (t840 != t844) = true
  ·rw [if_pos c11] at H
   have c11b0 : (t840 != t844) = true := c11
   (try (have c11b1 : decide (t840 = t844) = false := by simpa using c11))
   (try (have c11b2 : (t840 == t844) = false := by simpa using c11))
   (try (have c11b3 : ¬ (t840 = t844) := by simpa using c11))
   clear c11
   (first | rw [c11b0] | (simp only [i64_w, i32_w]; rw [c11b0]) | skip)
   have H' := am H
   clear H
   go_wp2
   go_meet
   case rel => exact ⟨_, (true), sd_, H', ⟨by first | omega | exact Nat.le_refl _⟩, ⟨by (with_reducible repeat (first | apply Kd.N_alloc | apply Kd.N_drewN | apply Kd.N_drew)); exact Kd.N_mono HO836.out (fun _ hk => ⟨hk.1.2, hk.2⟩)⟩, ⟨by (with_reducible repeat (first | apply Kd.N_alloc | apply Kd.N_drewN | apply Kd.N_drew)); exact HO839.out⟩, ⟨by (with_reducible repeat (first | apply Kd.N_alloc | apply Kd.N_drewN | apply Kd.N_drew)); exact HO843.out⟩, ⟨ab2_⟩⟩
  rw [if_neg c11] at H
  have c11b0 : (t840 != t844) = false := by simpa using c11
  (try (have c11b1 : decide (t840 = t844) = true := by simpa using c11))
  (try (have c11b2 : (t840 == t844) = true := by simpa using c11))
  clear c11
  (first | rw [c11b0] | (simp only [i64_w, i32_w]; rw [c11b0]) | skip)
  obtain ⟨t845, A120, H⟩ := bsm H
  (try dsimp only at H)
  have A12 := am A120
  clear A120
  by_cases c13 : t845 = true
  ·subst c13
   rw [if_pos rfl] at H
   have H' := am H
   clear H
   obtain ⟨Ao14, co14, eo14⟩ := Kd.N_slice HO839.out
   subst eo14
   obtain ⟨Ao15, co15, eo15⟩ := Kd.N_slice HO843.out
   subst eo15
   go_wp2_with (first | (go_at_call 15; (with_reducible refine (laws_sameStmts.calls k _ _ t837 _ _ t841 true _ ?side1 ?side2 ?side3 ?side4 A12.out).mono ?_); (case side1 => repeat (first | exact (Kd.N_reads' HO839.out).2.2 | (with_reducible refine Kd.C_alloc ?_ _) | (with_reducible refine Kd.C_drewN ?_ _) | (with_reducible refine Kd.C_drew ?_))); (case side2 => exact (Kd.N_reads' HO839.out).2.1); (case side3 => repeat (first | exact (Kd.N_reads' HO843.out).2.2 | (with_reducible refine Kd.C_alloc ?_ _) | (with_reducible refine Kd.C_drewN ?_ _) | (with_reducible refine Kd.C_drew ?_))); (case side4 => exact (Kd.N_reads' HO843.out).2.1); rintro e w16 ⟨rfl, hb⟩; replace HO836 := am (Kd.N_below (aN_ HO836.out) hb); replace HO839 := am (Kd.N_below (aN_ HO839.out) hb); replace HO843 := am (Kd.N_below (aN_ HO843.out) hb); replace HB := am (below_step ab2_ hb); (try clear hb); (try clear hb2); (try clear hk); (try clear hi)))
   go_meet
   case rel => exact ⟨_, (!t840), sd_, H', ⟨by first | omega | exact Nat.le_refl _⟩, ⟨by (with_reducible repeat (first | apply Kd.N_alloc | apply Kd.N_drewN | apply Kd.N_drew)); exact Kd.N_mono HO836.out (fun _ hk => ⟨hk.1.2, hk.2⟩)⟩, ⟨by (with_reducible repeat (first | apply Kd.N_alloc | apply Kd.N_drewN | apply Kd.N_drew)); exact HO839.out⟩, ⟨by (with_reducible repeat (first | apply Kd.N_alloc | apply Kd.N_drewN | apply Kd.N_drew)); exact HO843.out⟩, ⟨ab2_⟩⟩
  replace c13 := Bool.eq_false_iff.mpr c13
  subst c13
  rw [if_neg (show ¬ (false = true) by decide)] at H
  have H' := am H
  clear H
  obtain ⟨Ao17, co17, eo17⟩ := Kd.N_slice HO839.out
  subst eo17
  obtain ⟨Ao18, co18, eo18⟩ := Kd.N_slice HO843.out
  subst eo18
  go_wp2_with (first | (go_at_call 15; (with_reducible refine (laws_sameStmts.calls k _ _ t837 _ _ t841 false _ ?side1 ?side2 ?side3 ?side4 A12.out).mono ?_); (case side1 => repeat (first | exact (Kd.N_reads' HO839.out).2.2 | (with_reducible refine Kd.C_alloc ?_ _) | (with_reducible refine Kd.C_drewN ?_ _) | (with_reducible refine Kd.C_drew ?_))); (case side2 => exact (Kd.N_reads' HO839.out).2.1); (case side3 => repeat (first | exact (Kd.N_reads' HO843.out).2.2 | (with_reducible refine Kd.C_alloc ?_ _) | (with_reducible refine Kd.C_drewN ?_ _) | (with_reducible refine Kd.C_drew ?_))); (case side4 => exact (Kd.N_reads' HO843.out).2.1); rintro e w19 ⟨rfl, hb⟩; replace HO836 := am (Kd.N_below (aN_ HO836.out) hb); replace HO839 := am (Kd.N_below (aN_ HO839.out) hb); replace HO843 := am (Kd.N_below (aN_ HO843.out) hb); replace HB := am (below_step ab2_ hb); (try clear hb); (try clear hb2); (try clear hk); (try clear hi)))
  go_meet
  case rel => exact ⟨_, (true), sd_, H', ⟨by first | omega | exact Nat.le_refl _⟩, ⟨by (with_reducible repeat (first | apply Kd.N_alloc | apply Kd.N_drewN | apply Kd.N_drew)); exact Kd.N_mono HO836.out (fun _ hk => ⟨hk.1.2, hk.2⟩)⟩, ⟨by (with_reducible repeat (first | apply Kd.N_alloc | apply Kd.N_drewN | apply Kd.N_drew)); exact HO839.out⟩, ⟨by (with_reducible repeat (first | apply Kd.N_alloc | apply Kd.N_drewN | apply Kd.N_drew)); exact HO843.out⟩, ⟨ab2_⟩⟩
 case rest =>
  clear HC6
  try clear c2
  try clear c2b0
  try clear c2b1
  obtain ⟨kq, x35_5, rfl, HA, HJ5, HO_3, HO_4, HO_6, HB⟩ := hcut
  cases kq with
  | zero => exact absurd HA.out (by simp [laws_FnStmtsFoldIf.j0])
  | succ kj5 =>
   have H := HA.out
   clear HA
   simp only [laws_FnStmtsFoldIf.j0] at H
   by_cases c20 : x35_5 = true
   ·subst c20
    rw [if_pos rfl] at H
    by_cases c21 : (t840 == t844) = true
    ·rw [if_pos c21] at H
     have c21b0 : (t840 == t844) = true := c21
     (try (have c21b1 : decide (t840 = t844) = true := by simpa using c21))
     (try (have c21b2 : (t840 == t844) = true := by simpa using c21))
     clear c21
     obtain ⟨t846, A220, H⟩ := bsm H
     (try dsimp only at H)
     have A22 := am A220
     clear A220
     obtain rfl := Option.some.inj H
     obtain ⟨Ao23, co23, eo23⟩ := Kd.N_slice HO_4.out
     subst eo23
     obtain ⟨Ao24, co24, eo24⟩ := Kd.N_slice HO_6.out
     subst eo24
     go_wp2_with (first | (go_at_call 15; (with_reducible refine (laws_sameStmts.calls kj5 _ _ t837 _ _ t841 t846 _ ?side1 ?side2 ?side3 ?side4 A22.out).mono ?_); (case side1 => repeat (first | exact (Kd.N_reads' HO_4.out).2.2 | (with_reducible refine Kd.C_alloc ?_ _) | (with_reducible refine Kd.C_drewN ?_ _) | (with_reducible refine Kd.C_drew ?_))); (case side2 => exact (Kd.N_reads' HO_4.out).2.1); (case side3 => repeat (first | exact (Kd.N_reads' HO_6.out).2.2 | (with_reducible refine Kd.C_alloc ?_ _) | (with_reducible refine Kd.C_drewN ?_ _) | (with_reducible refine Kd.C_drew ?_))); (case side4 => exact (Kd.N_reads' HO_6.out).2.1); rintro e w25 ⟨rfl, hb⟩; replace HO_3 := am (Kd.N_below (aN_ HO_3.out) hb); replace HO_4 := am (Kd.N_below (aN_ HO_4.out) hb); replace HO_6 := am (Kd.N_below (aN_ HO_6.out) hb); replace HB := am (below_step ab2_ hb); (try clear hb); (try clear hb2); (try clear hk); (try clear hi)))
     go_ret
     exact ⟨rr_, ab2_⟩
    rw [if_neg c21] at H
    have c21b0 : (t840 == t844) = false := by simpa using c21
    (try (have c21b1 : decide (t840 = t844) = false := by simpa using c21))
    (try (have c21b2 : (t840 == t844) = false := by simpa using c21))
    (try (have c21b3 : ¬ (t840 = t844) := by simpa using c21))
    clear c21
    obtain rfl := Option.some.inj H
    go_wp2
    go_ret
    exact ⟨rr_, ab2_⟩
   replace c20 := Bool.eq_false_iff.mpr c20
   subst c20
   rw [if_neg (show ¬ (false = true) by decide)] at H
   obtain ⟨t847, A260, H⟩ := bsm H
   (try dsimp only at H)
   have A26 := am A260
   clear A260
   by_cases c27 : t847 = true
   ·subst c27
    rw [if_pos rfl] at H
    obtain rfl := Option.some.inj H
    obtain ⟨Ao28, co28, eo28⟩ := Kd.N_slice HO_4.out
    subst eo28
    go_wp2_with (first | ((with_reducible refine gate_callee (f := 19) rfl ?_); refine goesL_ (some 45) rfl rfl Try.func19 (by kernel_rfl) rfl #[.slice Ao28 t837.length co28] rfl ab1_ ?_; (with_reducible refine (laws_openIf.calls kj5 _ _ t837 true _ ?side1 ?side2 A26.out).mono ?_); (case side1 => repeat (first | exact (Kd.N_reads' HO_4.out).2.2 | (with_reducible refine Kd.C_alloc ?_ _) | (with_reducible refine Kd.C_drewN ?_ _) | (with_reducible refine Kd.C_drew ?_))); (case side2 => exact (Kd.N_reads' HO_4.out).2.1); rintro e w29 ⟨rfl, hb⟩; refine ⟨_, rfl, ?_⟩; replace HO_3 := am (Kd.N_below (aN_ HO_3.out) hb); replace HO_4 := am (Kd.N_below (aN_ HO_4.out) hb); replace HO_6 := am (Kd.N_below (aN_ HO_6.out) hb); replace HB := am (below_step ab2_ hb); (try clear hb); (try clear hb2); (try clear hk); (try clear hi)))
    go_ret
    exact ⟨rr_, ab2_⟩
   replace c27 := Bool.eq_false_iff.mpr c27
   subst c27
   rw [if_neg (show ¬ (false = true) by decide)] at H
   obtain ⟨t848, A300, H⟩ := bsm H
   (try dsimp only at H)
   have A30 := am A300
   clear A300
   obtain ⟨t849, A310, H⟩ := bsm H
   (try dsimp only at H)
   have A31 := am A310
   clear A310
   obtain rfl := Option.some.inj H
   obtain ⟨Ao32, co32, eo32⟩ := Kd.N_slice HO_4.out
   subst eo32
   go_wp2_with (first | ((with_reducible refine gate_callee (f := 19) rfl ?_); refine goesL_ (some 45) rfl rfl Try.func19 (by kernel_rfl) rfl #[.slice Ao32 t837.length co32] rfl ab1_ ?_; (with_reducible refine (laws_openIf.calls kj5 _ _ t837 false _ ?side1 ?side2 A26.out).mono ?_); (case side1 => repeat (first | exact (Kd.N_reads' HO_4.out).2.2 | (with_reducible refine Kd.C_alloc ?_ _) | (with_reducible refine Kd.C_drewN ?_ _) | (with_reducible refine Kd.C_drew ?_))); (case side2 => exact (Kd.N_reads' HO_4.out).2.1); rintro e w33 ⟨rfl, hb⟩; refine ⟨_, rfl, ?_⟩; replace HO_3 := am (Kd.N_below (aN_ HO_3.out) hb); replace HO_4 := am (Kd.N_below (aN_ HO_4.out) hb); replace HO_6 := am (Kd.N_below (aN_ HO_6.out) hb); replace HB := am (below_step ab2_ hb); (try clear hb); (try clear hb2); (try clear hk); (try clear hi)) | (go_at_call 20; (with_reducible refine (laws_countKind.calls kj5 _ _ t837 3 t848 _ ?side1 ?side2 A30.out).mono ?_); (case side1 => repeat (first | exact (Kd.N_reads' HO_4.out).2.2 | (with_reducible refine Kd.C_alloc ?_ _) | (with_reducible refine Kd.C_drewN ?_ _) | (with_reducible refine Kd.C_drew ?_))); (case side2 => exact (Kd.N_reads' HO_4.out).2.1); rintro e w34 ⟨rfl, hb⟩; replace HO_3 := am (Kd.N_below (aN_ HO_3.out) hb); replace HO_4 := am (Kd.N_below (aN_ HO_4.out) hb); replace HO_6 := am (Kd.N_below (aN_ HO_6.out) hb); replace HB := am (below_step ab2_ hb); (try clear hb); (try clear hb2); (try clear hk); (try clear hi)) | (go_at_call 20; (with_reducible refine (laws_countKind.calls kj5 _ _ t834 3 t849 _ ?side1 ?side2 A31.out).mono ?_); (case side1 => repeat (first | exact (Kd.N_reads' HO_3.out).2.2 | (with_reducible refine Kd.C_alloc ?_ _) | (with_reducible refine Kd.C_drewN ?_ _) | (with_reducible refine Kd.C_drew ?_))); (case side2 => exact (Kd.N_reads' HO_3.out).2.1); rintro e w35 ⟨rfl, hb⟩; replace HO_3 := am (Kd.N_below (aN_ HO_3.out) hb); replace HO_4 := am (Kd.N_below (aN_ HO_4.out) hb); replace HO_6 := am (Kd.N_below (aN_ HO_6.out) hb); replace HB := am (below_step ab2_ hb); (try clear hb); (try clear hb2); (try clear hk); (try clear hi)))
   go_ret
   exact ⟨rr_, ab2_⟩
def laws_FnStmtsFoldIf.Pure : Prop := ∀ (l0 : List Int), l0.length ≤ maxLen → l0.length * 1 ≤ 140737488351232 → (∀ x ∈ l0, (Lit.int .u8 x).wf = true) → ∃ k, laws_FnStmtsFoldIf.f k l0 = some true
theorem laws_FnStmtsFoldIf.walk (P : laws_FnStmtsFoldIf.Pure) (a0 : Option Addr) (len0 cap0 : Nat) (z0 : List Int) (w : World) (w0 : (a0 = none ∧ len0 = 0 ∧ cap0 = 0 ∧ z0 = []) ∨ ∃ x, a0 = some x ∧ len0 ≤ cap0 ∧ cap0 ≤ maxLen ∧ z0.length = cap0 ∧ (∀ i, i < z0.length → w.cell? (x.add i) = some (.int .u8 (z0.getD i 0))) ∧ ∀ n ∈ z0, (Lit.int .u8 n).wf = true) (y0 : len0 * 1 ≤ 140737488351232) :
  Calls Try.prog 7 #[.slice a0 len0 cap0] w fun e w' => e = .returned (.bool true) ∧ Below w.heap.size w w' := by
 obtain ⟨l0, rfl, hr0, hm0, hw0, hc0⟩ := ReadsInt.ofRowC w0
 obtain ⟨k, h⟩ := P l0 hm0 y0 hw0
 refine (laws_FnStmtsFoldIf.calls k _ _ l0 true w (Kd.C_of_reads (d := (0 : Int)) (h1 := fun _ => rfl) hr0) hc0 h).mono ?_
 rintro e w' ⟨rfl, hd⟩
 exact ⟨rfl, hd⟩
end Go.Proofs.Ytodhbeeibagiaaa.PA

namespace Go.Proofs.Ytodhbeeibagiaaa.Core
open Go.RowKit Go.Proofs.YtodhbeeibagiaaaW.PrintWords Go.Proofs.YtodhbeeibagiaaaW.PrintMore
section
variable {α β : Type} {g h : Nat → Option α} {P Q : α → Prop}
def EvP (g : Nat → Option α) (P : α → Prop) : Prop := ∃ r, Ev g r ∧ P r
theorem EvP.ret {r : α} (h : P r) : EvP (fun _ => some r) P := ⟨r, Ev.now r, h⟩
theorem EvP.mono (h : EvP g P) (k : ∀ a, P a → Q a) : EvP g Q := by
 obtain ⟨r, h1, h2⟩ := h
 exact ⟨r, h1, k r h2⟩
theorem EvP.bind {f : Nat → α → Option β} {R : β → Prop} (h : EvP g P) (k : ∀ a, P a → EvP (fun n => f n a) R) : EvP (fun n => (g n).bind (f n)) R := by
 obtain ⟨a, h1, h2⟩ := h
 obtain ⟨r, k1, k2⟩ := k a h2
 exact ⟨r, Ev.bind h1 k1, k2⟩
theorem EvP.bind0 {o : Option α} {a : α} {f : Nat → α → Option β} {R : β → Prop} (h : o = some a) (k : EvP (fun n => f n a) R) : EvP (fun n => o.bind (f n)) R := by
 subst h
 exact k
theorem EvP.ite {c : Prop} [Decidable c] (h1 : c → EvP g P) (h2 : ¬ c → EvP h P) : EvP (fun n => if c then g n else h n) P := by
 by_cases hc : c
 ·simp only [if_pos hc]
  exact h1 hc
 ·simp only [if_neg hc]
  exact h2 hc
theorem EvP.yes {c : Prop} [Decidable c] (hc : c) (h1 : EvP g P) : EvP (fun n => if c then g n else h n) P := by
 simp only [if_pos hc]
 exact h1
theorem EvP.no {c : Prop} [Decidable c] (hc : ¬ c) (h1 : EvP h P) : EvP (fun n => if c then g n else h n) P := by
 simp only [if_neg hc]
 exact h1
theorem EvP.step {f : Nat → Option α} (h : ∀ k, g (k + 1) = f k) (k : EvP f P) : EvP g P := by
 obtain ⟨r, h1, h2⟩ := k
 exact ⟨r, Ev.step h h1, h2⟩
theorem EvP.ends {r : α} (h : EvP g (· = r)) : ∃ k, g k = some r := by
  obtain ⟨a, h1, h2⟩ := h
  subst h2
  exact h1.rounds
theorem EvP.congr {f : Nat → Option α} (h : ∀ k, g k = f k) (k : EvP f P) : EvP g P := by
 obtain ⟨r, h1, h2⟩ := k
 exact ⟨r, Ev.congr h h1, h2⟩
theorem EvP.bindEq {f : Nat → α → Option β} {R : β → Prop} {a : α} (h : EvP g (· = a)) (k : EvP (fun n => f n a) R) : EvP (fun n => (g n).bind (f n)) R :=
  EvP.bind h (fun b hb => by subst hb; exact k)
end
theorem w64 {n : Int} (h1 : -9223372036854775808 ≤ n) (h2 : n ≤ 9223372036854775807) : wrap64 n = n := by
 unfold wrap64
 omega
theorem rd_mem (xs : List Int) (i : Int) (h0 : 0 ≤ i) (h : i < xs.length) : rd xs i ∈ xs := by
 unfold rd
 rw [List.getD_eq_getElem?_getD, List.getElem?_eq_getElem (by omega)]
 exact List.getElem_mem _
theorem tm_range {a b : Int} (h0 : 0 ≤ a) (hb : 0 < b) : 0 ≤ Int.tmod a b ∧ Int.tmod a b < b := by
 rw [Int.tmod_eq_emod_of_nonneg h0]
 exact ⟨Int.emod_nonneg _ (by omega), Int.emod_lt_of_pos _ hb⟩
end Go.Proofs.Ytodhbeeibagiaaa.Core

namespace Go.Proofs.Ytodhbeeibagiaaa.PA
open Go.RowKit Go.Proofs.YtodhbeeibagiaaaW.PrintWords Go.Proofs.YtodhbeeibagiaaaW.PrintMore Go.Proofs.Ytodhbeeibagiaaa.Core
def vw (n : Int) : Bool := decide (-2147483648 ≤ n) && decide (n ≤ 2147483647)
theorem vw_iff {n : Int} : vw n = true ↔ -2147483648 ≤ n ∧ n ≤ 2147483647 := by
 unfold vw
 rw [Bool.and_eq_true, decide_eq_true_eq, decide_eq_true_eq]
theorem and31 (b : Int) : 0 ≤ Go.bits .and .i64 b 31 ∧ Go.bits .and .i64 b 31 ≤ 31 := by
 simp only [Go.bits]
 rw [show IntKind.i64.bits = 64 from rfl, IntKind.wrap_i64, BitVec.toNat_and]
 have h : (BitVec.ofInt 64 b).toNat &&& (BitVec.ofInt 64 31).toNat ≤ (BitVec.ofInt 64 31).toNat := Nat.and_le_right
 have e : (BitVec.ofInt 64 31).toNat = 31 := by decide
 rw [e] at h ⊢
 omega
theorem w32_w64 (a : Int) : wrap32 (wrap64 a) = wrap32 a := by
 unfold wrap32 wrap64
 omega
theorem w64_w32 (a : Int) : wrap64 (wrap32 a) = wrap32 a := by
 unfold wrap32 wrap64
 omega
def ap (op a b : Int) : Int :=
 if op = 1 then Go.bits .or .i64 a b else if op = 2 then Go.bits .xor .i64 a b else if op = 3 then Go.bits .and .i64 a b
 else if op = 4 then (if a = b then 1 else 0) else if op = 5 then (if a < b then 1 else 0)
 else if op = 6 then wrap32 (shl .i64 a (Go.bits .and .i64 b 31)) else if op = 7 then shr .i64 a (Go.bits .and .i64 b 31)
 else if op = 8 then wrap32 (a + b) else if op = 9 then wrap32 (a - b) else if op = 10 then wrap32 (a * b)
 else if op = 11 then (if b = 0 then -1 else wrap32 (Int.tdiv a b)) else if b = 0 then a else Int.tmod a b
end Go.Proofs.Ytodhbeeibagiaaa.PA

namespace Go.Proofs.Ytodhbeeibagiaaa.PA
open Go.RowKit Go.Proofs.YtodhbeeibagiaaaW.PrintWords Go.Proofs.Ytodhbeeibagiaaa.Core
theorem l6In_eq (a b c : Int) : spec_l6In.f a b c = some (decide (b ≤ a) && decide (a ≤ c)) := by
 unfold spec_l6In.f
 by_cases h : a ≥ b
 ·rw [if_pos h, decide_eq_true h, Bool.true_and]
 ·rw [if_neg h, decide_eq_false h, Bool.false_and]
theorem spec_WordValid_eq (a : Int) : spec_WordValid.f a = some (vw a) := by
 unfold spec_WordValid.f
 rw [l6In_eq]
 rfl
end Go.Proofs.Ytodhbeeibagiaaa.PA

namespace Go.Proofs.Ytodhbeeibagiaaa.PA
open Go.RowKit Go.Proofs.Ytodhbeeibagiaaa.Core
inductive X where
 | num (n : Int)
 | var (v : Int)
 | bin (op : Int) (a b : X)
namespace X
def ok : X → Prop
 | num n => 0 ≤ n ∧ n ≤ 99999
 | var v => 0 ≤ v ∧ v < 4
 | bin op a b => (1 ≤ op ∧ op ≤ 12) ∧ a.ok ∧ b.ok
def depth : X → Nat
 | num _ => 1
 | var _ => 1
 | bin _ a b => max a.depth b.depth + 1
def size : X → Nat
 | num _ => 1
 | var _ => 1
 | bin _ a b => a.size + b.size + 1
def eval (g : Int → Int) : X → Int
 | num n => n
 | var v => g v
 | bin op a b => ap op (a.eval g) (b.eval g)
def foldB (op : Int) : X → X → X
 | num m, num n => if 0 ≤ ap op m n ∧ ap op m n ≤ 99999 then num (ap op m n) else bin op (num m) (num n)
 | a, b => bin op a b
def fold : X → X
 | num n => num n
 | var v => var v
 | bin op a b => foldB op a.fold b.fold
def isNum : X → Bool
 | num _ => true
 | _ => false
theorem one_le_depth : ∀ x : X, 1 ≤ x.depth
 | num _ | var _ => Nat.le_refl _
 | bin _ _ _ => Nat.le_add_left _ _
theorem foldB_ok {op : Int} (ho : 1 ≤ op ∧ op ≤ 12) : ∀ {a b : X}, a.ok → b.ok → (foldB op a b).ok := by
 intro a b ha hb
 unfold foldB
 split
 ·split
  ·assumption
  ·exact ⟨ho, ha, hb⟩
 ·exact ⟨ho, ha, hb⟩
theorem fold_ok : ∀ x : X, x.ok → x.fold.ok
 | num _, h => h
 | var _, h => h
 | bin _ a b, h => foldB_ok h.1 (fold_ok a h.2.1) (fold_ok b h.2.2)
theorem foldB_depth (op : Int) (a b : X) : (foldB op a b).depth ≤ max a.depth b.depth + 1 := by
 unfold foldB
 split
 ·split
  ·simp [depth]
  ·exact Nat.le_refl _
 ·exact Nat.le_refl _
theorem fold_depth : ∀ x : X, x.fold.depth ≤ x.depth
 | num _ => Nat.le_refl _
 | var _ => Nat.le_refl _
 | bin op a b => by
  have ha := fold_depth a
  have hb := fold_depth b
  have h := foldB_depth op a.fold b.fold
  simp only [fold, depth]
  omega
theorem foldB_of {op : Int} {a b : X} (h : ∀ m n, a = num m → b = num n → ¬ (0 ≤ ap op m n ∧ ap op m n ≤ 99999)) : foldB op a b = bin op a b := by
 unfold foldB
 split
 ·rw [if_neg (h _ _ rfl rfl)]
 ·rfl
end X
end Go.Proofs.Ytodhbeeibagiaaa.PA

namespace Go.Proofs.Ytodhbeeibagiaaa.PA
open Go.RowKit Go.Proofs.YtodhbeeibagiaaaW.PrintWords Go.Proofs.YtodhbeeibagiaaaW.PrintMore Go.Proofs.Ytodhbeeibagiaaa.Core
def emb : X → S32
 | .num n => ⟨0, n, []⟩
 | .var v => ⟨13, v, []⟩
 | .bin op a b => ⟨op, 0, [emb a, emb b]⟩
theorem rdE_0 (a b : S32) : rd_T32 [a, b] 0 = a := rfl
theorem rdE_1 (a b : S32) : rd_T32 [a, b] 1 = b := rfl
theorem etaE (a : S32) : (⟨a.f0, a.f1, a.f2⟩ : S32) = a := by
 cases a
 rfl
def vx : Nat → Int → Int → List S32 → Bool
 | 0, _, _, _ => false
 | d + 1, op, n, l =>
  if op = 0 then decide (0 ≤ n) && (decide (n ≤ 99999) && decide (l.length = 0))
  else if op = 13 then decide (0 ≤ n) && (decide (n < 4) && decide (l.length = 0))
  else decide (1 ≤ op) && (decide (op ≤ 12) && (decide (n = 0) && (match l with
   | [a, b] => vx d a.f0 a.f1 a.f2 && vx d b.f0 b.f1 b.f2
   | _ => false)))
theorem two_of {α : Type} {l : List α} (h : l.length = 2) : ∃ a b, l = [a, b] := by
 match l, h with
 | [a, b], _ => exact ⟨a, b, rfl⟩
theorem vx_tree : ∀ (d : Nat) (op n : Int) (l : List S32), vx d op n l = true → ∃ x : X, x.ok ∧ x.depth ≤ d ∧ emb x = ⟨op, n, l⟩
 | 0, _, _, _, h => by cases h
 | d + 1, op, n, l, h => by
  unfold vx at h
  by_cases h0 : op = 0
  ·rw [if_pos h0] at h
   simp only [Bool.and_eq_true, decide_eq_true_eq] at h
   subst h0
   exact ⟨.num n, ⟨h.1, h.2.1⟩, by simp [X.depth], by rw [emb, List.eq_nil_of_length_eq_zero h.2.2]⟩
  ·rw [if_neg h0] at h
   by_cases h13 : op = 13
   ·rw [if_pos h13] at h
    simp only [Bool.and_eq_true, decide_eq_true_eq] at h
    subst h13
    exact ⟨.var n, ⟨h.1, h.2.1⟩, by simp [X.depth], by rw [emb, List.eq_nil_of_length_eq_zero h.2.2]⟩
   ·rw [if_neg h13] at h
    simp only [Bool.and_eq_true, decide_eq_true_eq] at h
    obtain ⟨h1, h2, h3, h4⟩ := h
    split at h4
    ·rename_i a b
     simp only [Bool.and_eq_true] at h4
     obtain ⟨x, x1, x2, x3⟩ := vx_tree d a.f0 a.f1 a.f2 h4.1
     obtain ⟨y, y1, y2, y3⟩ := vx_tree d b.f0 b.f1 b.f2 h4.2
     exact ⟨.bin op x y, ⟨⟨h1, h2⟩, x1, y1⟩, by simp only [X.depth]; omega, by rw [emb, x3, y3, h3, etaE, etaE]⟩
    ·cases h4
theorem vx_emb : ∀ (x : X) (d : Nat), x.ok → (vx d (emb x).f0 (emb x).f1 (emb x).f2 = decide (x.depth ≤ d))
 | x, 0, _ => by
  have := X.one_le_depth x
  rw [decide_eq_false (by omega)]
  rfl
 | .num n, d + 1, h => by
  have h : 0 ≤ n ∧ n ≤ 99999 := h
  simp [vx, emb, X.depth, h.1, h.2]
 | .var v, d + 1, h => by
  have h : 0 ≤ v ∧ v < 4 := h
  simp [vx, emb, X.depth, h.1, h.2]
 | .bin op a b, d + 1, h => by
  have h1 := h.1
  have ha := vx_emb a d h.2.1
  have hb := vx_emb b d h.2.2
  have e0 : ¬ (op = 0) := by omega
  have e13 : ¬ (op = 13) := by omega
  have e : (X.bin op a b).depth = max a.depth b.depth + 1 := rfl
  show (if op = 0 then _ else if op = 13 then _ else decide (1 ≤ op) && (decide (op ≤ 12) && (true && (vx d (emb a).f0 (emb a).f1 (emb a).f2 && vx d (emb b).f0 (emb b).f1 (emb b).f2)))) = _
  rw [if_neg e0, if_neg e13, decide_eq_true h1.1, decide_eq_true h1.2, ha, hb, e, Bool.true_and, Bool.true_and, Bool.true_and, Bool.eq_iff_iff]
  simp only [Bool.and_eq_true, decide_eq_true_eq]
  omega
theorem impl_OpValid_eq (a : Int) : impl_OpValid.f a = some (decide (1 ≤ a) && decide (a ≤ 12)) := by
 unfold impl_OpValid.f
 by_cases h : a ≥ 1
 ·rw [if_pos h, decide_eq_true h, Bool.true_and]
 ·rw [if_neg h, decide_eq_false h, Bool.false_and]
theorem spec_OpValid_eq (a : Int) : spec_OpValid.f a = some (decide (1 ≤ a) && decide (a ≤ 12)) := by
 unfold spec_OpValid.f
 rw [l6In_eq]
 rfl
theorem impl_exprValid_ev : ∀ (d : Nat) (op n : Int) (l : List S32), d ≤ 1000 → EvP (fun k => impl_exprValid.f k op n l (d : Int)) (· = vx d op n l)
  | 0, op, n, l, hd => by
    refine EvP.step (fun k => impl_exprValid.f.eq_2 (k := k) ..) ?_
    refine EvP.ite (fun h => ?_) (fun h => ?_)
    · refine EvP.ite (fun _ => EvP.ite (fun _ => EvP.ite (fun _ => EvP.ret ?_) (fun _ => EvP.ret ?_)) (fun _ => EvP.ret ?_)) (fun _ => EvP.ret ?_) <;> simp [vx]
    · refine EvP.ite (fun h => ?_) (fun h => ?_)
      · refine EvP.ite (fun _ => EvP.ite (fun _ => EvP.ite (fun _ => EvP.ret ?_) (fun _ => EvP.ret ?_)) (fun _ => EvP.ret ?_)) (fun _ => EvP.ret ?_) <;> simp [vx]
      · refine EvP.bind0 (impl_OpValid_eq op) (EvP.ite (fun _ => EvP.ite (fun _ => EvP.ite (fun _ => EvP.no (by omega) (EvP.ret ?_)) (fun _ => EvP.ret ?_)) (fun _ => EvP.ret ?_)) (fun _ => EvP.ret ?_)) <;> simp [vx]
  | d + 1, op, n, l, hd => by
    refine EvP.step (fun k => impl_exprValid.f.eq_2 (k := k) ..) ?_
    unfold vx
    refine EvP.ite (fun h => ?_) (fun h => ?_)
    · rw [if_pos h]
      refine EvP.ite (fun h1 => EvP.ite (fun h2 => EvP.ite (fun h3 => EvP.ret ?_) (fun h3 => EvP.ret ?_)) (fun h2 => EvP.ret ?_)) (fun h1 => EvP.ret ?_)
      · rw [decide_eq_true (show 0 ≤ n from h1), decide_eq_true h2, decide_eq_true (show l.length = 0 by omega)]
        simp
      · rw [decide_eq_false (p := l.length = 0) (by omega)]
        simp
      · rw [decide_eq_false h2]
        simp
      · rw [decide_eq_false (p := 0 ≤ n) h1]
        simp
    · rw [if_neg h]
      refine EvP.ite (fun h => ?_) (fun h13 => ?_)
      · rw [if_pos h]
        refine EvP.ite (fun h1 => EvP.ite (fun h2 => EvP.ite (fun h3 => EvP.ret ?_) (fun h3 => EvP.ret ?_)) (fun h2 => EvP.ret ?_)) (fun h1 => EvP.ret ?_)
        · rw [decide_eq_true (show 0 ≤ n from h1), decide_eq_true h2, decide_eq_true (show l.length = 0 by omega)]
          simp
        · rw [decide_eq_false (p := l.length = 0) (by omega)]
          simp
        · rw [decide_eq_false h2]
          simp
        · rw [decide_eq_false (p := 0 ≤ n) h1]
          simp
      · rw [if_neg h13]
        refine EvP.bind0 (impl_OpValid_eq op) (EvP.ite (fun h1 => ?_) (fun h1 => EvP.ret ?_))
        · simp only [Bool.and_eq_true, decide_eq_true_eq] at h1
          rw [decide_eq_true h1.1, decide_eq_true h1.2]
          refine EvP.ite (fun h2 => ?_) (fun h2 => EvP.ret (by rw [decide_eq_false h2]; rfl))
          rw [decide_eq_true h2]
          refine EvP.ite (fun h3 => ?_) (fun h3 => EvP.ret ?_)
          · obtain ⟨a, b, rfl⟩ := two_of (show l.length = 2 by omega)
            refine EvP.ite (fun h4 => ?_) (fun h4 => EvP.ret ?_)
            · rw [w64 (by omega) (by omega), show ((d + 1 : Nat) : Int) - 1 = (d : Int) by omega, rdE_0, rdE_1]
              refine EvP.yes (by simp) (EvP.bindEq (impl_exprValid_ev d _ _ _ (by omega)) (EvP.ite (fun h5 => ?_) (fun h5 => EvP.ret ?_)))
              · refine EvP.yes (by simp) (EvP.bindEq (impl_exprValid_ev d _ _ _ (by omega)) (EvP.ret ?_))
                simp [h5]
              · simp [h5]
            · have hd0 : d = 0 := by omega
              subst hd0
              rfl
          · split
            · simp at h3
            · rfl
        · symm
          rw [Bool.eq_false_iff]
          intro e
          simp only [Bool.and_eq_true, decide_eq_true_eq] at e h1
          exact h1 ⟨e.1, e.2.1⟩
theorem spec_l4Ok_ev : ∀ (d : Nat) (op n : Int) (l : List S32), d ≤ 1000 → EvP (fun k => spec_l4Ok.f k op n l (d : Int)) (· = vx d op n l)
  | 0, op, n, l, hd => EvP.step (fun k => spec_l4Ok.f.eq_2 (k := k) ..) (EvP.yes (by omega) (EvP.ret rfl))
  | d + 1, op, n, l, hd => by
    have hlen : ((l.length : Int) == 0) = decide (l.length = 0) := by
      rw [Bool.eq_iff_iff, beq_iff_eq, decide_eq_true_eq]
      omega
    refine EvP.step (fun k => spec_l4Ok.f.eq_2 (k := k) ..) (EvP.no (by omega) ?_)
    unfold vx
    refine EvP.ite (fun h => ?_) (fun h => ?_)
    · rw [if_pos h, l6In_eq]
      refine EvP.bind0 rfl (EvP.ite (fun h1 => EvP.ret ?_) (fun h1 => EvP.ret ?_))
      · rw [hlen]
        simp only [Bool.and_eq_true, decide_eq_true_eq] at h1
        rw [decide_eq_true h1.1, decide_eq_true h1.2]
        rfl
      · rw [← Bool.and_assoc, Bool.eq_false_iff.mpr h1]
        rfl
    · rw [if_neg h]
      refine EvP.ite (fun h => ?_) (fun h13 => ?_)
      · rw [if_pos h, l6In_eq]
        have e3 : decide (n < 4) = decide (n ≤ 3) := decide_eq_decide.mpr (by omega)
        rw [e3]
        refine EvP.bind0 rfl (EvP.ite (fun h1 => EvP.ret ?_) (fun h1 => EvP.ret ?_))
        · rw [hlen]
          simp only [Bool.and_eq_true, decide_eq_true_eq] at h1
          rw [decide_eq_true h1.1, decide_eq_true h1.2]
          rfl
        · rw [← Bool.and_assoc, Bool.eq_false_iff.mpr h1]
          rfl
      · rw [if_neg h13]
        refine EvP.bind0 (spec_OpValid_eq op) (EvP.ite (fun h1 => ?_) (fun h1 => EvP.ret ?_))
        · simp only [Bool.and_eq_true, decide_eq_true_eq] at h1
          rw [decide_eq_true h1.1, decide_eq_true h1.2]
          refine EvP.ite (fun h2 => ?_) (fun h2 => EvP.ret (by rw [decide_eq_false h2]; rfl))
          rw [decide_eq_true h2]
          refine EvP.ite (fun h3 => ?_) (fun h3 => EvP.ret ?_)
          · obtain ⟨a, b, rfl⟩ := two_of (show l.length = 2 by omega)
            rw [w64 (by omega) (by omega), show ((d + 1 : Nat) : Int) - 1 = (d : Int) by omega, rdE_0, rdE_1]
            refine EvP.yes (by simp) (EvP.bindEq (spec_l4Ok_ev d _ _ _ (by omega)) (EvP.ite (fun h5 => ?_) (fun h5 => EvP.ret ?_)))
            · refine EvP.yes (by simp) (EvP.bindEq (spec_l4Ok_ev d _ _ _ (by omega)) (EvP.ret ?_))
              simp [h5]
            · simp [h5]
          · split
            · simp at h3
            · rfl
        · rw [← Bool.and_assoc, Bool.eq_false_iff.mpr h1]
          rfl
theorem spec_ExprValid_ev (op n : Int) (l : List S32) : EvP (fun k => spec_ExprValid.f k op n l) (· = vx 5 op n l) := by
  unfold spec_ExprValid.f
  exact EvP.bindEq (spec_l4Ok_ev 5 op n l (by omega)) (EvP.ret rfl)
theorem impl_ExprValid_ev (op n : Int) (l : List S32) : EvP (fun k => impl_ExprValid.f k op n l) (· = vx 5 op n l) := by
  unfold impl_ExprValid.f
  exact EvP.bindEq (impl_exprValid_ev 5 op n l (by omega)) (EvP.ret rfl)
mutual
def cS : S35 → Nat
 | ⟨_, _, _, _, b, e⟩ => cSs b + cSs e
def cSs : List S35 → Nat
 | [] => 0
 | x :: xs => cS x + 1 + cSs xs
end
theorem cS_f (x : S35) : cS x = cSs x.f4 + cSs x.f5 := by
 cases x
 rw [cS]
theorem cSs_length : ∀ l : List S35, l.length ≤ cSs l
 | [] => Nat.zero_le _
 | x :: xs => by
  have := cSs_length xs
  rw [cSs, List.length_cons]
  omega
theorem cSs_append : ∀ l m : List S35, cSs (l ++ m) = cSs l + cSs m
 | [], m => by rw [cSs]; simp
 | x :: xs, m => by
  rw [List.cons_append, cSs, cSs, cSs_append xs m]
  omega
theorem cSs_mem : ∀ (l : List S35) (x : S35), x ∈ l → cS x < cSs l
 | y :: ys, x, h => by
  rw [cSs]
  rcases List.mem_cons.1 h with rfl | h
  ·omega
  ·have := cSs_mem ys x h
   omega
theorem cSs_drop (l : List S35) (i : Nat) (h : i < l.length) : cSs (l.drop i) = cS l[i] + 1 + cSs (l.drop (i + 1)) := by
 rw [List.drop_eq_getElem_cons h, cSs]
theorem cSs_one (x : S35) : cSs [x] = cS x + 1 := by
 rw [cSs, cSs]
theorem cSs_nil : cSs [] = 0 := by rw [cSs]
theorem cSs_take_drop (l : List S35) (n : Nat) : cSs (l.take n) + cSs (l.drop n) = cSs l := by
 rw [← cSs_append, List.take_append_drop]
theorem rdS_nat (l : List S35) (i : Nat) (h : i < l.length) : rd_T35 l (i : Int) = l[i] := by
 unfold rd_T35
 rw [Int.toNat_natCast, List.getD_eq_getElem?_getD, List.getElem?_eq_getElem h]
 rfl
def varOk (use : Bool) (va : Int) : Bool := if use = true then decide (0 ≤ va) && decide (va ≤ 3) else va == 0
def boxOk (boxes : Int) (use : Bool) (bx : Int) : Bool := if use = true then decide (0 ≤ bx) && decide (bx ≤ boxes - 1) else bx == 0
def plainOk (op n : Int) (la : List S32) : Bool := op == 0 && (n == 0 && la.length == 0)
def restOk (boxes : Int) (nv nb ne nd no : Bool) (va bx op n : Int) (la : List S32) (lb le : Nat) : Bool :=
 varOk nv va && (boxOk boxes nb bx && ((if ne = true then vx 5 op n la else plainOk op n la) && ((nd || lb == 0) && (no || le == 0))))
def stOk (boxes kd va bx op n : Int) (la : List S32) (lb le : Nat) : Bool :=
 if kd = 1 then restOk boxes true false true false false va bx op n la lb le
 else if kd = 2 then restOk boxes false false true true true va bx op n la lb le
 else if kd = 3 then restOk boxes false false true true false va bx op n la lb le
 else if kd = 4 then restOk boxes false true true false false va bx op n la lb le
 else if kd = 5 then restOk boxes true true false false false va bx op n la lb le
 else if kd = 7 then restOk boxes false false true false false va bx op n la lb le
 else if kd = 6 then restOk boxes false false false false false va bx op n la lb le
 else false
def stS (boxes : Int) (s : S35) : Bool := stOk boxes s.f0 s.f1 s.f2 s.f3.f0 s.f3.f1 s.f3.f2 s.f4.length s.f5.length
def isBlk (s : S35) : Bool := s.f0 == 2 || s.f0 == 3
def okOne (boxes : Int) : Nat → S35 → Bool
 | 0, s => stS boxes s && !isBlk s
 | d + 1, s => stS boxes s && (!isBlk s || (s.f4.all (okOne boxes d) && s.f5.all (okOne boxes d)))
def okL (boxes : Int) (d : Nat) (l : List S35) : Bool := l.all (okOne boxes d)
theorem okOne_st {boxes : Int} {d : Nat} {s : S35} (h : okOne boxes d s = true) : stS boxes s = true := by
 cases d <;> (simp only [okOne, Bool.and_eq_true] at h; exact h.1)
theorem stOk_flat {boxes kd va bx op n : Int} {la : List S32} {lb le : Nat} (h : stOk boxes kd va bx op n la lb le = true) (h2 : kd ≠ 2) (h3 : kd ≠ 3) : lb = 0 ∧ le = 0 := by
 unfold stOk at h
 rw [if_neg h2, if_neg h3] at h
 repeat' split at h
 all_goals first
  | (cases h; done)
  | (simp only [restOk, Bool.and_eq_true, Bool.false_or, beq_iff_eq] at h; exact h.2.2.2)
theorem flat_cS {boxes : Int} {s : S35} (h : stS boxes s = true) (h2 : ¬ (s.f0 = 2 ∨ s.f0 = 3)) : cS s = 0 := by
 obtain ⟨h4, h5⟩ := stOk_flat h (fun e => h2 (.inl e)) (fun e => h2 (.inr e))
 rw [cS_f, List.eq_nil_of_length_eq_zero h4, List.eq_nil_of_length_eq_zero h5, cSs]
theorem isBlk_iff (s : S35) : isBlk s = true ↔ s.f0 = 2 ∨ s.f0 = 3 := by
 unfold isBlk
 simp
theorem inr_var (use : Bool) (va : Int) : inr va 4 use = varOk use va := by
 rw [Bool.eq_iff_iff]
 cases use
 ·simp [inr, varOk]
 ·simp [inr, varOk]
  omega
theorem stv_rest_ev (nv nb ne nd no : Bool) (va bx op n : Int) (la : List S32) (lb le : Nat) (boxes : Int) :
    EvP (fun k => stv_rest k nv nb ne nd no va bx op n la lb le boxes) (· = restOk boxes nv nb ne nd no va bx op n la lb le) := by
  unfold stv_rest restOk
  rw [inr_var]
  refine EvP.ite (fun h1 => ?_) (fun h1 => EvP.ret (by rw [Bool.eq_false_iff.mpr h1]; rfl))
  rw [h1, Bool.true_and]
  have hb : (inr bx boxes nb = true ∧ ¬ (nb = true ∧ boxes ≤ bx)) ↔ boxOk boxes nb bx = true := by
    cases nb
    · simp [inr, boxOk]
    · simp [inr, boxOk]
      omega
  refine EvP.ite (fun h2 => EvP.ite (fun h3 => EvP.ret ?_) (fun h3 => ?_)) (fun h2 => EvP.ret ?_)
  · have : boxOk boxes nb bx = false := Bool.eq_false_iff.mpr (fun e => (hb.mpr e).2 h3)
    rw [this]
    rfl
  · rw [hb.mp ⟨h2, h3⟩, Bool.true_and]
    refine EvP.ite (fun h4 => ?_) (fun h4 => ?_)
    · rw [if_pos h4]
      refine EvP.bindEq (impl_ExprValid_ev op n la) (EvP.ite (fun h5 => EvP.ret (by rw [h5, Bool.true_and])) (fun h5 => EvP.ret (by rw [Bool.eq_false_iff.mpr h5]; rfl)))
    · rw [if_neg h4]
      unfold plainOk
      refine EvP.ite (fun h5 => EvP.ite (fun h6 => EvP.ite (fun h7 => EvP.ret ?_) (fun h7 => EvP.ret ?_)) (fun h6 => EvP.ret ?_)) (fun h5 => EvP.ret ?_)
      · rw [beq_eq_false_iff_ne.mpr (show la.length ≠ 0 by omega)]
        simp
      · rw [h5, h6, beq_iff_eq.mpr (show la.length = 0 by omega)]
        simp
      · rw [beq_eq_false_iff_ne.mpr h6]
        simp
      · rw [beq_eq_false_iff_ne.mpr h5]
        simp
  · have : boxOk boxes nb bx = false := Bool.eq_false_iff.mpr (fun e => h2 (hb.mpr e).1)
    rw [this]
    rfl
theorem impl_stmtValid_ev (kd va bx op n : Int) (la : List S32) (lb le : Nat) (boxes : Int) :
    EvP (fun k => impl_stmtValid.f k kd va bx op n la lb le boxes) (· = stOk boxes kd va bx op n la lb le) := by
  unfold impl_stmtValid.f stOk
  have hr := fun nv nb ne nd no => stv_rest_ev nv nb ne nd no va bx op n la lb le boxes
  repeat (refine EvP.ite (fun h => ?_) (fun h => ?_); · rw [if_pos h]; exact hr _ _ _ _ _
          rw [if_neg h])
  exact EvP.ret rfl
def BlkSays (boxes : Int) (d : Nat) (l : List S35) (cnt : Int) (p : Bool × Int) : Prop :=
 p.1 = (okL boxes d l && decide (cnt + cSs l ≤ 16)) ∧ (p.1 = true → p.2 = cnt + cSs l)
theorem blockValid_l0 (boxes blocks : Int) (d : Nat) (hd : d ≤ 3) (hb : blocks = 3 - d) (l : List S35) (hl : cSs l ≤ 1000000000)
  (sub : ∀ d', d = d' + 1 → ∀ (m : List S35) (cnt : Int), cSs m ≤ 1000000000 → 0 ≤ cnt → cnt ≤ 16 → EvP (fun k => impl_blockValid.f k m boxes (wrap64 (blocks + 1)) cnt) (BlkSays boxes d' m cnt)) :
  ∀ (r j : Nat) (cnt : Int), j + r = l.length → 0 ≤ cnt → cnt ≤ 16 →
   EvP (fun k => impl_blockValid.l0 k l boxes blocks (j : Int) cnt) (fun p => p.1 = (okL boxes d (l.drop j) && decide (cnt + cSs (l.drop j) - r ≤ 16)) ∧ (p.1 = true → p.2 = cnt + cSs (l.drop j) - r)) := by
 intro r
 have hlen := cSs_length l
 induction r with
 | zero =>
  intro j cnt hj h0 h1
  refine EvP.step (fun k => impl_blockValid.l0.eq_2 (k := k) ..) (EvP.no (by omega) (EvP.ret ?_))
  rw [List.drop_eq_nil_of_le (by omega), cSs_nil]
  constructor
  ·simp [okL]
   omega
  ·intro _
   simp
 | succ r ih =>
  intro j cnt hj h0 h1
  have hlt : j < l.length := by omega
  have hc := cSs_drop l j hlt
  have hr : r ≤ cSs (l.drop (j + 1)) := by
   have := cSs_length (l.drop (j + 1))
   rw [List.length_drop] at this
   omega
  have hm := cSs_mem l _ (List.getElem_mem hlt)
  have hcs := cS_f l[j]
  have hall : okL boxes d (l.drop j) = (okOne boxes d l[j] && okL boxes d (l.drop (j + 1))) := by
   rw [List.drop_eq_getElem_cons hlt]
   rfl
  rw [hall]
  refine EvP.step (fun k => impl_blockValid.l0.eq_2 (k := k) ..) (EvP.yes (by omega) (EvP.yes (by omega) ?_))
  rw [rdS_nat l j hlt, w64 (n := (j : Int) + 1) (by omega) (by omega)]
  refine EvP.bindEq (impl_stmtValid_ev _ _ _ _ _ _ _ _ _) (EvP.ite (fun hs => ?_) (fun hs => EvP.ret ?_))
  ·have hs : stS boxes l[j] = true := hs
   refine EvP.no (by omega) (EvP.ite (fun hk => ?_) (fun hk => ?_))
   ·have hbk : isBlk l[j] = true := (isBlk_iff _).mpr hk
    cases d with
    | zero =>
     refine EvP.yes (by omega) (EvP.ret ?_)
     have : okOne boxes 0 l[j] = false := by simp [okOne, hbk]
     rw [this]
     exact ⟨rfl, fun h => by cases h⟩
    | succ d' =>
     have ho : okOne boxes (d' + 1) l[j] = (okL boxes d' l[j].f4 && okL boxes d' l[j].f5) := by
      simp only [okOne, hs, hbk, okL]
      rfl
     rw [ho]
     refine EvP.no (by omega) (EvP.bind (sub d' rfl _ cnt (by omega) h0 h1) fun p hp => ?_)
     obtain ⟨hp1, hp2⟩ := hp
     refine EvP.ite (fun hy => ?_) (fun hy => EvP.ret ?_)
     ·have e2 := hp2 hy
      rw [hy] at hp1
      have hq := hp1.symm
      rw [Bool.and_eq_true, decide_eq_true_eq] at hq
      rw [e2]
      refine EvP.bind (sub d' rfl _ _ (by omega) (by omega) hq.2) fun q hq' => ?_
      obtain ⟨hq1, hq2⟩ := hq'
      refine EvP.ite (fun hz => ?_) (fun hz => EvP.ret ?_)
      ·have e3 := hq2 hz
       rw [hz] at hq1
       have hq3 := hq1.symm
       rw [Bool.and_eq_true, decide_eq_true_eq] at hq3
       rw [e3]
       refine (ih (j + 1) _ (by omega) (by omega) hq3.2).mono fun a ha => ?_
       rw [hq.1, hq3.1, Bool.true_and, Bool.true_and]
       refine ⟨ha.1.trans ?_, fun h => (ha.2 h).trans ?_⟩
       ·congr 1
        exact decide_eq_decide.mpr (by omega)
       ·omega
      ·have hz' := Bool.eq_false_iff.mpr hz
       rw [hz'] at hq1
       refine ⟨?_, fun h => by cases h⟩
       show false = _
       symm
       rw [Bool.eq_false_iff]
       intro e
       simp only [Bool.and_eq_true, decide_eq_true_eq] at e
       have : (okL boxes d' l[j].f5 && decide (cnt + ↑(cSs l[j].f4) + ↑(cSs l[j].f5) ≤ 16)) = true := by
        rw [e.1.1.2, decide_eq_true (by omega)]
        rfl
       rw [this] at hq1
       cases hq1
     ·have hy' := Bool.eq_false_iff.mpr hy
      rw [hy'] at hp1
      refine ⟨?_, fun h => by cases h⟩
      show false = _
      symm
      rw [Bool.eq_false_iff]
      intro e
      simp only [Bool.and_eq_true, decide_eq_true_eq] at e
      have : (okL boxes d' l[j].f4 && decide (cnt + ↑(cSs l[j].f4) ≤ 16)) = true := by
       rw [e.1.1.1, decide_eq_true (by omega)]
       rfl
      rw [this] at hp1
      cases hp1
   ·have hbk : isBlk l[j] = false := Bool.eq_false_iff.mpr (fun e => hk ((isBlk_iff _).mp e))
    have ho : okOne boxes d l[j] = true := by
     cases d <;> simp [okOne, hs, hbk]
    have hz := flat_cS hs hk
    rw [ho, Bool.true_and]
    refine (ih (j + 1) cnt (by omega) h0 h1).mono fun a ha => ?_
    refine ⟨ha.1.trans ?_, fun h => (ha.2 h).trans ?_⟩
    ·congr 1
     exact decide_eq_decide.mpr (by omega)
    ·omega
  ·have hs : stS boxes l[j] = false := Bool.eq_false_iff.mpr hs
   have ho : okOne boxes d l[j] = false := Bool.eq_false_iff.mpr (fun e => by rw [okOne_st e] at hs; cases hs)
   rw [ho]
   exact ⟨rfl, fun h => by cases h⟩
theorem impl_blockValid_ev (boxes : Int) : ∀ (d : Nat) (blocks : Int) (l : List S35) (cnt : Int), d ≤ 3 → blocks = 3 - d → cSs l ≤ 1000000000 → 0 ≤ cnt → cnt ≤ 16 →
  EvP (fun k => impl_blockValid.f k l boxes blocks cnt) (BlkSays boxes d l cnt) := by
 intro d
 induction d with
 | zero =>
  intro blocks l cnt hd hb hl h0 h1
  have hlen := cSs_length l
  refine EvP.step (fun k => impl_blockValid.f.eq_2 (k := k) ..) ?_
  rw [w64 (n := cnt + (l.length : Int)) (by omega) (by omega)]
  refine EvP.ite (fun h => EvP.ret ?_) (fun h => ?_)
  ·refine ⟨?_, fun h => by cases h⟩
   rw [decide_eq_false (by omega)]
   simp
  ·refine (blockValid_l0 boxes blocks 0 hd hb l hl (fun d' e => by omega) l.length 0 _ (by omega) (by omega) (by omega)).mono fun a ha => ?_
   rw [List.drop_zero] at ha
   refine ⟨ha.1.trans ?_, fun h => (ha.2 h).trans ?_⟩
   ·congr 1
    exact decide_eq_decide.mpr (by omega)
   ·omega
 | succ d ih =>
  intro blocks l cnt hd hb hl h0 h1
  have hlen := cSs_length l
  refine EvP.step (fun k => impl_blockValid.f.eq_2 (k := k) ..) ?_
  rw [w64 (n := cnt + (l.length : Int)) (by omega) (by omega)]
  refine EvP.ite (fun h => EvP.ret ?_) (fun h => ?_)
  ·refine ⟨?_, fun h => by cases h⟩
   rw [decide_eq_false (by omega)]
   simp
  ·refine (blockValid_l0 boxes blocks (d + 1) hd hb l hl (fun d' e m cnt hm h0 h1 => ?_) l.length 0 _ (by omega) (by omega) (by omega)).mono fun a ha => ?_
   ·have e' : d = d' := by omega
    subst e'
    rw [w64 (by omega) (by omega)]
    exact ih _ m cnt (by omega) (by omega) hm h0 h1
   ·rw [List.drop_zero] at ha
    refine ⟨ha.1.trans ?_, fun h => (ha.2 h).trans ?_⟩
    ·congr 1
     exact decide_eq_decide.mpr (by omega)
    ·omega
def okT (boxes : Int) (l : List S35) : Bool := okL boxes 3 l && decide (cSs l ≤ 16)
theorem impl_stmtsValid_ev (boxes : Int) (l : List S35) (hl : cSs l ≤ 1000000000) : EvP (fun k => impl_stmtsValid.f k l boxes) (· = okT boxes l) := by
  unfold impl_stmtsValid.f
  refine EvP.bind (impl_blockValid_ev boxes 3 0 l 0 (by omega) (by omega) hl (by omega) (by omega)) fun p hp => EvP.ret ?_
  rw [hp.1]
  unfold okT
  congr 1
  exact decide_eq_decide.mpr (by omega)
theorem impl_StmtsValid_ev (l : List S35) (hl : cSs l ≤ 1000000000) : EvP (fun k => impl_StmtsValid.f k l) (· = okT 3 l) := by
  unfold impl_StmtsValid.f
  exact EvP.bindEq (impl_stmtsValid_ev 3 l hl) (EvP.ret rfl)
theorem spec_l11Var_eq (a b c d e : Int) (l : List S32) (m n : List S35) (u : Bool) : spec_l11Var.f a b c d e l m n u = some (varOk u b) := by
 unfold spec_l11Var.f varOk
 rw [l6In_eq]
 cases u <;> rfl
theorem spec_l11Box_eq (a b c d e : Int) (l : List S32) (m n : List S35) (u : Bool) : spec_l11Box.f a b c d e l m n u = some (boxOk 3 u c) := by
 unfold spec_l11Box.f boxOk
 rw [l6In_eq]
 cases u <;> rfl
theorem spec_l11Plain_eq (op n : Int) (l : List S32) : spec_l11Plain.f op n l = some (plainOk op n l) := by
 unfold spec_l11Plain.f plainOk
 have hlen : ((l.length : Int) == 0) = (l.length == 0) := by
  rw [Bool.eq_iff_iff, beq_iff_eq, beq_iff_eq]
  omega
 by_cases h : op = 0
 ·rw [if_pos h, h]
  by_cases h2 : n = 0
  ·rw [if_pos h2, h2, hlen]
   rfl
  ·rw [if_neg h2, beq_eq_false_iff_ne.mpr h2]
   rfl
 ·rw [if_neg h, beq_eq_false_iff_ne.mpr h]
  rfl
theorem spec_l11Simple_ev (kd va bx op n : Int) (la : List S32) (m1 m2 : List S35) (h2 : kd ≠ 2) (h3 : kd ≠ 3) :
    EvP (fun k => spec_l11Simple.f k kd va bx op n la m1 m2) (· = stOk 3 kd va bx op n la m1.length m2.length) := by
  unfold spec_l11Simple.f
  have yes : ∀ b : Bool, ((m1.length == 0 && m2.length == 0) = !b) → EvP (fun k => spec_l11Simple.j0 k b kd va bx op n la m1 m2) (· = stOk 3 kd va bx op n la m1.length m2.length) := by
    intro b hb
    refine EvP.step (fun k => spec_l11Simple.j0.eq_2 (k := k) ..) ?_
    refine EvP.ite (fun h => EvP.ret ?_) (fun h => ?_)
    · symm
      rw [Bool.eq_false_iff]
      intro e
      obtain ⟨z1, z2⟩ := stOk_flat e h2 h3
      rw [z1, z2, h] at hb
      cases hb
    · have hb' : (m1.length == 0 && m2.length == 0) = true := by
        rw [hb, Bool.eq_false_iff.mpr h]
        rfl
      unfold stOk
      have hT : ∀ a b c : Bool, (a && (b && (c && ((false || m1.length == 0) && (false || m2.length == 0))))) = (a && (b && c)) := by
        intro a b c
        rw [Bool.false_or, Bool.false_or, hb', Bool.and_true]
      refine EvP.ite (fun h1 => ?_) (fun h1 => ?_)
      · rw [if_pos h1]
        unfold restOk
        rw [hT]
        refine EvP.bind0 (spec_l11Var_eq ..) (EvP.ite (fun hv => EvP.bind0 (spec_l11Box_eq ..) (EvP.ite (fun hx => EvP.bindEq (spec_ExprValid_ev ..) (EvP.ret ?_)) (fun hx => EvP.ret ?_))) (fun hv => EvP.ret ?_)) <;> simp [*]
      · rw [if_neg h1, if_neg h2, if_neg h3]
        refine EvP.ite (fun h1 => ?_) (fun h1 => ?_)
        · rw [if_pos h1]
          unfold restOk
          rw [hT]
          refine EvP.bind0 (spec_l11Var_eq ..) (EvP.ite (fun hv => EvP.bind0 (spec_l11Box_eq ..) (EvP.ite (fun hx => EvP.bindEq (spec_ExprValid_ev ..) (EvP.ret ?_)) (fun hx => EvP.ret ?_))) (fun hv => EvP.ret ?_)) <;> simp [*]
        · rw [if_neg h1]
          refine EvP.ite (fun h1 => ?_) (fun h1 => ?_)
          · rw [if_pos h1]
            unfold restOk
            rw [hT]
            refine EvP.bind0 (spec_l11Var_eq ..) (EvP.ite (fun hv => EvP.bind0 (spec_l11Box_eq ..) (EvP.ite (fun hx => EvP.bind0 (spec_l11Plain_eq ..) (EvP.ret ?_)) (fun hx => EvP.ret ?_))) (fun hv => EvP.ret ?_)) <;> simp [*]
          · rw [if_neg h1]
            refine EvP.ite (fun h6 => ?_) (fun h6 => ?_)
            · rw [if_neg (by omega), if_pos h6]
              unfold restOk
              rw [hT]
              refine EvP.bind0 (spec_l11Var_eq ..) (EvP.ite (fun hv => EvP.bind0 (spec_l11Box_eq ..) (EvP.ite (fun hx => EvP.bind0 (spec_l11Plain_eq ..) (EvP.ret ?_)) (fun hx => EvP.ret ?_))) (fun hv => EvP.ret ?_)) <;> simp [*]
            · refine EvP.ite (fun h7 => ?_) (fun h7 => ?_)
              · rw [if_pos h7]
                unfold restOk
                rw [hT]
                refine EvP.bind0 (spec_l11Var_eq ..) (EvP.ite (fun hv => EvP.bind0 (spec_l11Box_eq ..) (EvP.ite (fun hx => EvP.bindEq (spec_ExprValid_ev ..) (EvP.ret ?_)) (fun hx => EvP.ret ?_))) (fun hv => EvP.ret ?_)) <;> simp [*]
              · rw [if_neg h7, if_neg h6]
                exact EvP.ret rfl
  refine EvP.ite (fun h => yes true ?_) (fun h => yes _ ?_)
  · rw [beq_eq_false_iff_ne.mpr (show m1.length ≠ 0 by omega)]
    rfl
  · rw [beq_iff_eq.mpr (show m1.length = 0 by omega), Bool.true_and, ← decide_not, Bool.eq_iff_iff, beq_iff_eq, decide_eq_true_eq]
    omega
theorem spec_l11Blocks_l0 (l : List S35) (hl : l.length ≤ 1000000000) (x1 : Int) (d : Nat) (sub : ∀ x ∈ l, EvP (fun k => spec_l11Ok.f k x.f0 x.f1 x.f2 x.f3.f0 x.f3.f1 x.f3.f2 x.f4 x.f5 x1) (· = okOne 3 d x)) :
    ∀ (r j : Nat), j + r = l.length → EvP (fun k => spec_l11Blocks.l0 k l x1 (j : Int)) (· = okL 3 d (l.drop j)) := by
  intro r
  induction r with
  | zero =>
    intro j hj
    refine EvP.step (fun k => spec_l11Blocks.l0.eq_2 (k := k) ..) (EvP.no (by omega) (EvP.ret ?_))
    rw [List.drop_eq_nil_of_le (by omega)]
    rfl
  | succ r ih =>
    intro j hj
    have hlt : j < l.length := by omega
    refine EvP.step (fun k => spec_l11Blocks.l0.eq_2 (k := k) ..) (EvP.yes (by omega) (EvP.yes (by omega) ?_))
    rw [rdS_nat l j hlt, w64 (n := (j : Int) + 1) (by omega) (by omega)]
    have hall : okL 3 d (l.drop j) = (okOne 3 d l[j] && okL 3 d (l.drop (j + 1))) := by
      rw [List.drop_eq_getElem_cons hlt]
      rfl
    rw [hall]
    refine EvP.bindEq (sub _ (List.getElem_mem hlt)) (EvP.ite (fun h => ?_) (fun h => EvP.ret ?_))
    · rw [h, Bool.true_and]
      exact ih (j + 1) (by omega)
    · rw [Bool.eq_false_iff.mpr h]
      rfl
theorem spec_l11Blocks_of (l : List S35) (hl : l.length ≤ 1000000000) (x1 : Int) (d : Nat) (sub : ∀ x ∈ l, EvP (fun k => spec_l11Ok.f k x.f0 x.f1 x.f2 x.f3.f0 x.f3.f1 x.f3.f2 x.f4 x.f5 x1) (· = okOne 3 d x)) :
    EvP (fun k => spec_l11Blocks.f k l x1) (· = okL 3 d l) :=
  EvP.step (fun k => spec_l11Blocks.f.eq_2 (k := k) ..) (spec_l11Blocks_l0 l hl x1 d sub l.length 0 (by omega))
theorem spec_l11Ok_ev : ∀ (d : Nat) (x1 : Int) (x : S35), d ≤ 3 → x1 = d → cS x ≤ 1000000000 → EvP (fun k => spec_l11Ok.f k x.f0 x.f1 x.f2 x.f3.f0 x.f3.f1 x.f3.f2 x.f4 x.f5 x1) (· = okOne 3 d x) := by
  intro d
  induction d with
  | zero =>
    intro x1 x hd h1 hc
    have j1 : EvP (fun k => spec_l11Ok.j1 k x1 true x.f0 x.f1 x.f2 x.f3.f0 x.f3.f1 x.f3.f2 x.f4 x.f5) (· = false) :=
      EvP.step (fun k => spec_l11Ok.j1.eq_2 (k := k) ..) (EvP.yes rfl (EvP.ret rfl))
    refine EvP.step (fun k => spec_l11Ok.f.eq_2 (k := k) ..) (EvP.ite (fun h2 => ?_) (fun h2 => ?_))
    · have : okOne 3 0 x = false := by simp [okOne, isBlk, h2]
      rw [this]
      refine EvP.step (fun k => spec_l11Ok.j0.eq_2 (k := k) ..) (EvP.no Bool.false_ne_true (EvP.yes (by omega) j1))
    · refine EvP.step (fun k => spec_l11Ok.j0.eq_2 (k := k) ..) (EvP.ite (fun h3 => ?_) (fun h3 => EvP.yes (by omega) ?_))
      · have h3 : x.f0 ≠ 3 := bne_iff_ne.mp h3
        refine EvP.bindEq (spec_l11Simple_ev _ _ _ _ _ _ _ _ h2 h3) (EvP.ret ?_)
        simp [okOne, isBlk, h2, h3, stS]
      · have h3 : x.f0 = 3 := by simpa using h3
        have : okOne 3 0 x = false := by simp [okOne, isBlk, h3]
        rw [this]
        exact j1
  | succ d ih =>
    intro x1 x hd h1 hc
    have hcs := cS_f x
    have e1 : wrap64 (x1 - 1) = (d : Int) := by
      rw [w64 (by omega) (by omega)]
      omega
    have len4 := cSs_length x.f4
    have len5 := cSs_length x.f5
    have sub : ∀ m : List S35, cSs m ≤ 1000000000 → EvP (fun k => spec_l11Blocks.f k m (wrap64 (x1 - 1))) (· = okL 3 d m) := by
      intro m hm
      have := cSs_length m
      refine spec_l11Blocks_of m (by omega) _ d (fun y hy => ih _ y (by omega) e1 ?_)
      have := cSs_mem m y hy
      omega
    have j1 : ∀ b : Bool, isBlk x = true → (b = (x.f0 == 3 && decide ((x.f5.length : Int) > 0))) → EvP (fun k => spec_l11Ok.j1 k x1 b x.f0 x.f1 x.f2 x.f3.f0 x.f3.f1 x.f3.f2 x.f4 x.f5) (· = okOne 3 (d + 1) x) := by
      intro b hb hbb
      have ho : okOne 3 (d + 1) x = (stS 3 x && (okL 3 d x.f4 && okL 3 d x.f5)) := by
        simp only [okOne, hb, okL]
        rfl
      rw [ho]
      refine EvP.step (fun k => spec_l11Ok.j1.eq_2 (k := k) ..) (EvP.ite (fun h => EvP.ret ?_) (fun h => ?_))
      · rw [h] at hbb
        have h4 := hbb.symm
        simp only [Bool.and_eq_true, beq_iff_eq, decide_eq_true_eq] at h4
        have : stS 3 x = false := by
          have hne : (x.f5.length == 0) = false := beq_eq_false_iff_ne.mpr (by omega)
          simp [stS, stOk, h4.1, restOk, hne]
        rw [this]
        rfl
      · have hst : stS 3 x = (varOk false x.f1 && (boxOk 3 false x.f2 && vx 5 x.f3.f0 x.f3.f1 x.f3.f2)) := by
          rcases (isBlk_iff x).mp hb with h2 | h2
          · simp [stS, stOk, h2, restOk]
          · have h5 : x.f5.length = 0 := by
              rw [Bool.eq_false_iff.mpr h, h2] at hbb
              have := hbb.symm
              simp only [beq_self_eq_true, Bool.true_and, decide_eq_false_iff_not] at this
              omega
            simp [stS, stOk, h2, restOk, h5]
        rw [hst]
        refine EvP.bind0 (spec_l11Var_eq ..) (EvP.ite (fun hv => EvP.bind0 (spec_l11Box_eq ..) (EvP.ite (fun hx => EvP.bindEq (spec_ExprValid_ev ..) (EvP.ite (fun he => ?_) (fun he => EvP.ret ?_))) (fun hx => EvP.ret ?_))) (fun hv => EvP.ret ?_))
        · refine EvP.bindEq (sub x.f4 (by omega)) (EvP.ite (fun h4 => EvP.bindEq (sub x.f5 (by omega)) (EvP.ret ?_)) (fun h4 => EvP.ret ?_)) <;> simp [*]
        all_goals simp [*]
    refine EvP.step (fun k => spec_l11Ok.f.eq_2 (k := k) ..) (EvP.ite (fun h2 => ?_) (fun h2 => ?_))
    · refine EvP.step (fun k => spec_l11Ok.j0.eq_2 (k := k) ..) (EvP.no Bool.false_ne_true (EvP.no (by omega) (EvP.no (by omega) (j1 false ?_ ?_))))
      · simp [isBlk, h2]
      · simp [h2]
    · refine EvP.step (fun k => spec_l11Ok.j0.eq_2 (k := k) ..) (EvP.ite (fun h3 => ?_) (fun h3 => EvP.no (by omega) ?_))
      · have h3 : x.f0 ≠ 3 := bne_iff_ne.mp h3
        refine EvP.bindEq (spec_l11Simple_ev _ _ _ _ _ _ _ _ h2 h3) (EvP.ret ?_)
        simp [okOne, isBlk, h2, h3, stS]
      · have h3 : x.f0 = 3 := by simpa using h3
        refine EvP.yes h3 (j1 _ ?_ ?_)
        · simp [isBlk, h3]
        · simp [h3]
theorem spec_l11Blocks_ev (l : List S35) (hl : cSs l ≤ 1000000000) : EvP (fun k => spec_l11Blocks.f k l 3) (· = okL 3 3 l) := by
  have := cSs_length l
  refine spec_l11Blocks_of l (by omega) _ 3 (fun y hy => spec_l11Ok_ev 3 3 y (by omega) (by omega) ?_)
  have := cSs_mem l y hy
  omega
theorem spec_l11Count_ev : ∀ (c : Nat) (l : List S35), cSs l ≤ c → c ≤ 1000000000 → EvP (fun k => spec_l11Count.f k l) (· = (cSs l : Int)) := by
  intro c
  induction c with
  | zero =>
    intro l hl hc
    have := cSs_length l
    refine EvP.step (fun k => spec_l11Count.f.eq_2 (k := k) ..) (EvP.step (fun k => spec_l11Count.l0.eq_2 (k := k) ..) (EvP.no (by omega) (EvP.ret ?_)))
    omega
  | succ c ih =>
    intro l hl hc
    have hlen := cSs_length l
    have loop : ∀ (r j : Nat) (a : Int), j + r = l.length → 0 ≤ a → a + cSs (l.drop j) ≤ 1000000000 → EvP (fun k => spec_l11Count.l0 k l a (j : Int)) (· = a + cSs (l.drop j)) := by
      intro r
      induction r with
      | zero =>
        intro j a hj h0 h1
        refine EvP.step (fun k => spec_l11Count.l0.eq_2 (k := k) ..) (EvP.no (by omega) (EvP.ret ?_))
        rw [List.drop_eq_nil_of_le (by omega), cSs_nil]
        omega
      | succ r ih2 =>
        intro j a hj h0 h1
        have hlt : j < l.length := by omega
        have hd := cSs_drop l j hlt
        have hm := cSs_mem l _ (List.getElem_mem hlt)
        have hcs := cS_f l[j]
        refine EvP.step (fun k => spec_l11Count.l0.eq_2 (k := k) ..) (EvP.yes (by omega) (EvP.yes (by omega) ?_))
        rw [rdS_nat l j hlt, w64 (n := (j : Int) + 1) (by omega) (by omega)]
        refine EvP.bindEq (ih _ (by omega) (by omega)) (EvP.bindEq (ih _ (by omega) (by omega)) ?_)
        rw [w64 (n := a + 1) (by omega) (by omega), w64 (n := a + 1 + (cSs l[j].f4 : Int)) (by omega) (by omega), w64 (by omega) (by omega)]
        refine (ih2 (j + 1) _ (by omega) (by omega) (by omega)).mono fun b hb => ?_
        omega
    refine EvP.step (fun k => spec_l11Count.f.eq_2 (k := k) ..) ((loop l.length 0 0 (by omega) (by omega) (by rw [List.drop_zero]; omega)).mono fun b hb => ?_)
    rw [List.drop_zero] at hb
    omega
theorem spec_StmtsValid_ev (l : List S35) (hl : cSs l ≤ 1000000000) : EvP (fun k => spec_StmtsValid.f k l) (· = okT 3 l) := by
  unfold spec_StmtsValid.f okT
  refine EvP.bindEq (spec_l11Blocks_ev l hl) (EvP.ite (fun h => EvP.bindEq (spec_l11Count_ev _ l hl (by omega)) (EvP.ret ?_)) (fun h => EvP.ret ?_))
  · rw [h, Bool.true_and]
    exact decide_eq_decide.mpr (by omega)
  · rw [Bool.eq_false_iff.mpr h]
    rfl
theorem okL_append (boxes : Int) (d : Nat) (l m : List S35) : okL boxes d (l ++ m) = (okL boxes d l && okL boxes d m) := List.all_append
theorem okT_iff {boxes : Int} {l : List S35} : okT boxes l = true ↔ okL boxes 3 l = true ∧ cSs l ≤ 16 := by
 unfold okT
 rw [Bool.and_eq_true, decide_eq_true_eq]
theorem okOne_more (boxes : Int) : ∀ (d : Nat) (s : S35), okOne boxes d s = true → okOne boxes (d + 1) s = true
 | 0, s, h => by
  simp only [okOne, Bool.and_eq_true] at h ⊢
  exact ⟨h.1, by rw [h.2]; rfl⟩
 | d + 1, s, h => by
  simp only [okOne, Bool.and_eq_true, Bool.or_eq_true] at h ⊢
  refine ⟨h.1, ?_⟩
  rcases h.2 with h2 | ⟨h2, h3⟩
  ·exact .inl h2
  ·right
   constructor
   ·rw [List.all_eq_true] at h2 ⊢
    intro x hx
    have := okOne_more boxes d x (h2 x hx)
    simp only [okOne, Bool.and_eq_true, Bool.or_eq_true] at this
    exact Bool.and_eq_true_iff.mpr ⟨this.1, Bool.or_eq_true_iff.mpr (this.2.imp id fun h => Bool.and_eq_true_iff.mpr h)⟩
   ·rw [List.all_eq_true] at h3 ⊢
    intro x hx
    have := okOne_more boxes d x (h3 x hx)
    simp only [okOne, Bool.and_eq_true, Bool.or_eq_true] at this
    exact Bool.and_eq_true_iff.mpr ⟨this.1, Bool.or_eq_true_iff.mpr (this.2.imp id fun h => Bool.and_eq_true_iff.mpr h)⟩
theorem okL_more {boxes : Int} {d : Nat} {l : List S35} (h : okL boxes d l = true) : okL boxes (d + 1) l = true := by
 unfold okL at h ⊢
 rw [List.all_eq_true] at h ⊢
 exact fun x hx => okOne_more boxes d x (h x hx)
end Go.Proofs.Ytodhbeeibagiaaa.PA

namespace Go.Proofs.Ytodhbeeibagiaaa.PA
open Go.RowKit Go.Proofs.YtodhbeeibagiaaaW.PrintWords Go.Proofs.YtodhbeeibagiaaaW.PrintMore Go.Proofs.Ytodhbeeibagiaaa.Core
theorem etaS (a : S35) : (⟨a.f0, a.f1, a.f2, a.f3, a.f4, a.f5⟩ : S35) = a := by
 cases a
 rfl
inductive ST where
 | mk (kd va bx : Int) (x : X) (b e : List ST)
namespace ST
def kd : ST → Int | ⟨a, _, _, _, _, _⟩ => a
def va : ST → Int | ⟨_, a, _, _, _, _⟩ => a
def bx : ST → Int | ⟨_, _, a, _, _, _⟩ => a
def x : ST → X | ⟨_, _, _, a, _, _⟩ => a
def b : ST → List ST | ⟨_, _, _, _, a, _⟩ => a
def e : ST → List ST | ⟨_, _, _, _, _, a⟩ => a
end ST
mutual
def embT : ST → S35
 | ⟨kd, va, bx, x, b, e⟩ => ⟨kd, va, bx, emb x, embTs b, embTs e⟩
def embTs : List ST → List S35
 | [] => []
 | s :: ss => embT s :: embTs ss
end
def pickT (kd va bx : Int) (x : X) (b e : List ST) : List ST :=
 if kd = 2 then (match x with
  | .num n => if n = 0 then e else b
  | y => [⟨kd, va, bx, y, b, e⟩])
 else if kd = 3 then (match x with
  | .num n => if n = 0 then [] else [⟨kd, va, bx, .num n, b, e⟩]
  | y => [⟨kd, va, bx, y, b, e⟩])
 else [⟨kd, va, bx, x, b, e⟩]
mutual
def foldT : ST → List ST
 | ⟨kd, va, bx, x, b, e⟩ => pickT kd va bx x.fold (foldTs b) (foldTs e)
def foldTs : List ST → List ST
 | [] => []
 | s :: ss => foldT s ++ foldTs ss
end
theorem embT_f (t : ST) : embT t = ⟨t.kd, t.va, t.bx, emb t.x, embTs t.b, embTs t.e⟩ := by
 cases t
 rw [embT]
 rfl
theorem foldT_f (t : ST) : foldT t = pickT t.kd t.va t.bx t.x.fold (foldTs t.b) (foldTs t.e) := by
 cases t
 rw [foldT]
 rfl
theorem embTs_length : ∀ l : List ST, (embTs l).length = l.length
 | [] => by rw [embTs]; rfl
 | x :: xs => by rw [embTs, List.length_cons, List.length_cons, embTs_length xs]
theorem embTs_append : ∀ l m : List ST, embTs (l ++ m) = embTs l ++ embTs m
 | [], m => by rw [embTs]; rfl
 | x :: xs, m => by rw [List.cons_append, embTs, embTs, embTs_append xs m]; rfl
theorem embTs_get : ∀ (l : List ST) (i : Nat) (h : i < l.length), (embTs l)[i]'(by rw [embTs_length]; exact h) = embT l[i]
 | x :: xs, 0, _ => by simp [embTs]
 | x :: xs, i + 1, h => by
  have h2 := embTs_get xs i (by simpa using h)
  simp only [embTs, List.getElem_cons_succ]
  exact h2
theorem ind_ST {P : ST → Prop} (h : ∀ t : ST, (∀ y ∈ t.b, P y) → (∀ y ∈ t.e, P y) → P t) (t : ST) : P t :=
 @ST.rec (motive_1 := P) (motive_2 := fun l => ∀ y ∈ l, P y) (fun a b c d m n i1 i2 => h ⟨a, b, c, d, m, n⟩ i1 i2) (fun y hy => by simp at hy) (fun y ys h1 h2 z hz => by
  rcases List.mem_cons.1 hz with rfl | hz
  ·exact h1
  ·exact h2 z hz) t
inductive AX : ST → Prop
 | mk (t : ST) (h1 : t.x.ok) (h2 : t.x.depth ≤ 5) (hb : ∀ y ∈ t.b, AX y) (he : ∀ y ∈ t.e, AX y) : AX t
theorem of_okOne (boxes : Int) : ∀ (d : Nat) (s : S35), okOne boxes d s = true → ∃ t, embT t = s ∧ AX t := by
 have ex : ∀ s : S35, stS boxes s = true → ∃ x : X, emb x = s.f3 ∧ x.ok ∧ x.depth ≤ 5 := by
  intro s h
  have hv : vx 5 s.f3.f0 s.f3.f1 s.f3.f2 = true ∨ plainOk s.f3.f0 s.f3.f1 s.f3.f2 = true := by
   unfold stS stOk restOk at h
   repeat' split at h
   all_goals first
    | (cases h; done)
    | (simp only [Bool.and_eq_true] at h; first | exact .inl h.2.2.1 | exact .inr h.2.2.1)
    | skip
   all_goals simp_all
  rcases hv with hv | hv
  ·obtain ⟨x, h1, h2, h3⟩ := vx_tree 5 _ _ _ hv
   exact ⟨x, h3.trans (etaE _), h1, h2⟩
  ·unfold plainOk at hv
   simp only [Bool.and_eq_true, beq_iff_eq] at hv
   refine ⟨.num 0, ?_, ⟨by omega, by omega⟩, by simp [X.depth]⟩
   rw [emb, ← etaE s.f3, hv.1, hv.2.1, List.eq_nil_of_length_eq_zero hv.2.2]
 have mk : ∀ (s : S35), stS boxes s = true → (∃ l, embTs l = s.f4 ∧ ∀ y ∈ l, AX y) → (∃ l, embTs l = s.f5 ∧ ∀ y ∈ l, AX y) → ∃ t, embT t = s ∧ AX t := by
  rintro s h ⟨l, h4, a4⟩ ⟨m, h5, a5⟩
  obtain ⟨x, hx, hok, hd⟩ := ex s h
  refine ⟨⟨s.f0, s.f1, s.f2, x, l, m⟩, ?_, .mk _ hok hd a4 a5⟩
  rw [embT, hx, h4, h5]
  exact etaS s
 have nils : ∀ s : S35, stS boxes s = true → isBlk s = false → (∃ l, embTs l = s.f4 ∧ ∀ y ∈ l, AX y) ∧ (∃ l, embTs l = s.f5 ∧ ∀ y ∈ l, AX y) := by
  intro s h hb
  have hf := flat_cS h (fun e => by rw [(isBlk_iff s).mpr e] at hb; cases hb)
  rw [cS_f] at hf
  have l4 := cSs_length s.f4
  have l5 := cSs_length s.f5
  rw [List.eq_nil_of_length_eq_zero (show s.f4.length = 0 by omega), List.eq_nil_of_length_eq_zero (show s.f5.length = 0 by omega)]
  exact ⟨⟨[], by rw [embTs], by simp⟩, ⟨[], by rw [embTs], by simp⟩⟩
 intro d
 induction d with
 | zero =>
  intro s h
  simp only [okOne, Bool.and_eq_true] at h
  obtain ⟨n4, n5⟩ := nils s h.1 (by simpa using h.2)
  exact mk s h.1 n4 n5
 | succ d ih =>
  intro s h
  have lists : ∀ l : List S35, l.all (okOne boxes d) = true → ∃ m, embTs m = l ∧ ∀ y ∈ m, AX y := by
   intro l
   induction l with
   | nil => exact fun _ => ⟨[], by rw [embTs], by simp⟩
   | cons y ys ihl =>
    intro h
    rw [List.all_cons, Bool.and_eq_true] at h
    obtain ⟨t, ht, at_⟩ := ih y h.1
    obtain ⟨m, hm, am⟩ := ihl h.2
    refine ⟨t :: m, by rw [embTs, ht, hm], fun z hz => ?_⟩
    rcases List.mem_cons.1 hz with rfl | hz
    ·exact at_
    ·exact am z hz
  simp only [okOne, Bool.and_eq_true, Bool.or_eq_true] at h
  cases hb : isBlk s with
  | false =>
   obtain ⟨n4, n5⟩ := nils s h.1 hb
   exact mk s h.1 n4 n5
  | true =>
   rw [hb] at h
   rcases h.2 with h2 | h2
   ·cases h2
   ·exact mk s h.1 (lists _ h2.1) (lists _ h2.2)
theorem of_okL (boxes : Int) (d : Nat) : ∀ l : List S35, okL boxes d l = true → ∃ m, embTs m = l ∧ ∀ y ∈ m, AX y
 | [], _ => ⟨[], by rw [embTs], by simp⟩
 | y :: ys, h => by
  have h' : (okOne boxes d y && okL boxes d ys) = true := h
  rw [Bool.and_eq_true] at h'
  obtain ⟨t, ht, at_⟩ := of_okOne boxes d y h'.1
  obtain ⟨m, hm, am⟩ := of_okL boxes d ys h'.2
  refine ⟨t :: m, by rw [embTs, ht, hm], fun z hz => ?_⟩
  rcases List.mem_cons.1 hz with rfl | hz
  ·exact at_
  ·exact am z hz
theorem pickT_cases (kd va bx : Int) (x : X) (b e : List ST) : (pickT kd va bx x b e = b ∧ kd = 2) ∨ (pickT kd va bx x b e = e ∧ kd = 2) ∨ pickT kd va bx x b e = [] ∨ (pickT kd va bx x b e = [⟨kd, va, bx, x, b, e⟩] ∧ ¬ (kd = 2 ∧ x.isNum = true) ∧ ¬ (kd = 3 ∧ x = .num 0)) := by
 unfold pickT
 by_cases h2 : kd = 2
 ·rw [if_pos h2]
  cases x with
  | num n =>
   dsimp only
   by_cases h : n = 0
   ·rw [if_pos h]
    exact .inr (.inl ⟨rfl, h2⟩)
   ·rw [if_neg h]
    exact .inl ⟨rfl, h2⟩
  | var v => exact .inr (.inr (.inr ⟨rfl, by simp [X.isNum], by simp⟩))
  | bin o p q => exact .inr (.inr (.inr ⟨rfl, by simp [X.isNum], by simp⟩))
 ·rw [if_neg h2]
  by_cases h3 : kd = 3
  ·rw [if_pos h3]
   cases x with
   | num n =>
    dsimp only
    by_cases h : n = 0
    ·rw [if_pos h]
     exact .inr (.inr (.inl rfl))
    ·rw [if_neg h]
     exact .inr (.inr (.inr ⟨rfl, by simp [h2], by simp [h]⟩))
   | var v => exact .inr (.inr (.inr ⟨rfl, by simp [h2], by simp⟩))
   | bin o p q => exact .inr (.inr (.inr ⟨rfl, by simp [h2], by simp⟩))
  ·rw [if_neg h3]
   exact .inr (.inr (.inr ⟨rfl, by simp [h2], by simp [h3]⟩))
def cT (l : List ST) : Nat := cSs (embTs l)
theorem cT_append (l m : List ST) : cT (l ++ m) = cT l + cT m := by
 unfold cT
 rw [embTs_append, cSs_append]
theorem cT_one (t : ST) : cT [t] = cT t.b + cT t.e + 1 := by
 unfold cT
 rw [embTs, embTs, cSs_one, embT_f, cS_f]
theorem cT_cons (t : ST) (l : List ST) : cT (t :: l) = cT t.b + cT t.e + 1 + cT l := by
 rw [show t :: l = [t] ++ l from rfl, cT_append, cT_one]
theorem cT_nil : cT [] = 0 := by
 unfold cT
 rw [embTs, cSs]
theorem cT_foldTs_of (l : List ST) (h : ∀ y ∈ l, cT (foldT y) ≤ cT [y]) : cT (foldTs l) ≤ cT l := by
 induction l with
 | nil => rw [foldTs]; exact Nat.le_refl _
 | cons y ys ih =>
  have h1 := h y List.mem_cons_self
  have h2 := ih (fun z hz => h z (List.mem_cons_of_mem _ hz))
  rw [foldTs, cT_append, cT_cons]
  rw [cT_one] at h1
  omega
theorem cT_foldT (t : ST) : cT (foldT t) ≤ cT [t] := by
 refine ind_ST (P := fun t => cT (foldT t) ≤ cT [t]) (fun t i1 i2 => ?_) t
 have h1 := cT_foldTs_of t.b i1
 have h2 := cT_foldTs_of t.e i2
 rw [foldT_f, cT_one]
 rcases pickT_cases t.kd t.va t.bx t.x.fold (foldTs t.b) (foldTs t.e) with ⟨h, _⟩ | ⟨h, _⟩ | h | ⟨h, _⟩
 ·rw [h]; omega
 ·rw [h]; omega
 ·rw [h, cT_nil]; omega
 ·rw [h, cT_one]
  show cT (foldTs t.b) + cT (foldTs t.e) + 1 ≤ _
  omega
theorem cT_foldTs (l : List ST) : cT (foldTs l) ≤ cT l := cT_foldTs_of l (fun y _ => cT_foldT y)
theorem ax_foldTs_of (l : List ST) (h : ∀ y ∈ l, ∀ z ∈ foldT y, AX z) : ∀ z ∈ foldTs l, AX z := by
 induction l with
 | nil => rw [foldTs]; simp
 | cons y ys ih =>
  intro z hz
  rw [foldTs, List.mem_append] at hz
  rcases hz with hz | hz
  ·exact h y List.mem_cons_self z hz
  ·exact ih (fun w hw => h w (List.mem_cons_of_mem _ hw)) z hz
theorem ax_foldT (t : ST) : AX t → ∀ z ∈ foldT t, AX z := by
 refine ind_ST (P := fun t => AX t → ∀ z ∈ foldT t, AX z) (fun t i1 i2 ha => ?_) t
 cases ha with
 | mk _ h1 h2 hb he =>
  have g1 := ax_foldTs_of t.b (fun y hy => i1 y hy (hb y hy))
  have g2 := ax_foldTs_of t.e (fun y hy => i2 y hy (he y hy))
  rw [foldT_f]
  rcases pickT_cases t.kd t.va t.bx t.x.fold (foldTs t.b) (foldTs t.e) with ⟨h, _⟩ | ⟨h, _⟩ | h | ⟨h, _⟩
  ·rw [h]; exact g1
  ·rw [h]; exact g2
  ·rw [h]; simp
  ·rw [h]
   intro z hz
   rw [List.mem_singleton] at hz
   subst hz
   exact .mk _ (X.fold_ok _ h1) (Nat.le_trans (X.fold_depth _) h2) g1 g2
theorem ax_foldTs (l : List ST) (h : ∀ y ∈ l, AX y) : ∀ z ∈ foldTs l, AX z := ax_foldTs_of l (fun y hy => ax_foldT y (h y hy))
end Go.Proofs.Ytodhbeeibagiaaa.PA

namespace Go.Proofs.Ytodhbeeibagiaaa.PA
open Go.RowKit Go.Proofs.YtodhbeeibagiaaaW.PrintWords Go.Proofs.YtodhbeeibagiaaaW.PrintMore Go.Proofs.Ytodhbeeibagiaaa.Core
theorem restOk_mono {boxes : Int} {nv nb ne nd no : Bool} {va bx op n op' n' : Int} {la la' : List S32} {lb le lb' le' : Nat} (h : restOk boxes nv nb ne nd no va bx op n la lb le = true)
  (h1 : vx 5 op n la = true → vx 5 op' n' la' = true) (h2 : plainOk op n la = true → plainOk op' n' la' = true) (h3 : lb = 0 → lb' = 0) (h4 : le = 0 → le' = 0) : restOk boxes nv nb ne nd no va bx op' n' la' lb' le' = true := by
 unfold restOk at h ⊢
 simp only [Bool.and_eq_true, Bool.or_eq_true, beq_iff_eq] at h ⊢
 refine ⟨h.1, h.2.1, ?_, h.2.2.2.1.imp id h3, h.2.2.2.2.imp id h4⟩
 have h5 := h.2.2.1
 cases ne
 ·exact h2 h5
 ·exact h1 h5
theorem stOk_mono {boxes kd va bx op n op' n' : Int} {la la' : List S32} {lb le lb' le' : Nat} (h : stOk boxes kd va bx op n la lb le = true)
  (h1 : vx 5 op n la = true → vx 5 op' n' la' = true) (h2 : plainOk op n la = true → plainOk op' n' la' = true) (h3 : lb = 0 → lb' = 0) (h4 : le = 0 → le' = 0) : stOk boxes kd va bx op' n' la' lb' le' = true := by
 unfold stOk at h ⊢
 repeat' split at h
 all_goals first
  | (cases h; done)
  | (rename_i h0; rw [if_pos h0]; exact restOk_mono h h1 h2 h3 h4)
  | skip
 all_goals (simp_all; try exact restOk_mono h h1 h2 h3 h4)
theorem okL_foldTs_of (boxes : Int) (d : Nat) (l : List ST) (hl : okL boxes d (embTs l) = true) (h : ∀ t ∈ l, okOne boxes d (embT t) = true → okL boxes d (embTs (foldT t)) = true) : okL boxes d (embTs (foldTs l)) = true := by
 induction l with
 | nil => rw [foldTs]; exact hl
 | cons y ys ih =>
  rw [embTs] at hl
  have hl' : (okOne boxes d (embT y) && okL boxes d (embTs ys)) = true := hl
  rw [Bool.and_eq_true] at hl'
  rw [foldTs, embTs_append, okL_append, Bool.and_eq_true]
  exact ⟨h y List.mem_cons_self hl'.1, ih hl'.2 (fun z hz => h z (List.mem_cons_of_mem _ hz))⟩
theorem nil_of_emb {l : List ST} (h : (embTs l).length = 0) : (embTs (foldTs l)).length = 0 := by
 rw [embTs_length] at h
 rw [List.eq_nil_of_length_eq_zero h, foldTs, embTs]
 rfl
theorem okOne_fold (boxes : Int) : ∀ (d : Nat) (t : ST), AX t → okOne boxes d (embT t) = true → okL boxes d (embTs (foldT t)) = true := by
 have st : ∀ t : ST, AX t → stS boxes (embT t) = true → stS boxes (embT ⟨t.kd, t.va, t.bx, t.x.fold, foldTs t.b, foldTs t.e⟩) = true := by
  intro t ha h
  cases ha with
  | mk _ h1 h2 hb he =>
   rw [embT_f] at h ⊢
   unfold stS at h ⊢
   refine stOk_mono h (fun _ => ?_) (fun hp => ?_) nil_of_emb nil_of_emb
   ·exact (vx_emb t.x.fold 5 (X.fold_ok _ h1)).trans (decide_eq_true (Nat.le_trans (X.fold_depth _) h2))
   ·replace hp : plainOk (emb t.x).f0 (emb t.x).f1 (emb t.x).f2 = true := hp
    show plainOk (emb t.x.fold).f0 (emb t.x.fold).f1 (emb t.x.fold).f2 = true
    revert hp h1
    generalize t.x = x
    intro h1 hp
    cases x with
    | num n => exact hp
    | var v =>
     simp [plainOk, emb] at hp
    | bin o p q =>
     simp [plainOk, emb] at hp
 intro d
 induction d with
 | zero =>
  intro t ha h
  have h' : (stS boxes (embT t) && !isBlk (embT t)) = true := h
  rw [Bool.and_eq_true] at h'
  have hb : ¬ ((embT t).f0 = 2 ∨ (embT t).f0 = 3) := fun e => by
   have := (isBlk_iff _).mpr e
   rw [this] at h'
   cases h'.2
  rw [embT_f] at hb
  have s2 := st t ha h'.1
  rw [foldT_f]
  rcases pickT_cases t.kd t.va t.bx t.x.fold (foldTs t.b) (foldTs t.e) with ⟨_, e⟩ | ⟨_, e⟩ | e | ⟨e, _⟩
  ·exact absurd (.inl e) hb
  ·exact absurd (.inl e) hb
  ·rw [e, embTs]; rfl
  ·rw [e, embTs, embTs]
   unfold okL
   simp only [List.all_cons, List.all_nil, Bool.and_true, okOne, Bool.and_eq_true]
   refine ⟨s2, ?_⟩
   rw [embT_f]
   show (!(t.kd == 2 || t.kd == 3)) = true
   simpa using hb
 | succ d ih =>
  intro t ha h
  have h' : (stS boxes (embT t) && (!isBlk (embT t) || (okL boxes d (embT t).f4 && okL boxes d (embT t).f5))) = true := h
  rw [Bool.and_eq_true] at h'
  have s2 := st t ha h'.1
  have hblk : isBlk (embT t) = true → okL boxes d (embTs (foldTs t.b)) = true ∧ okL boxes d (embTs (foldTs t.e)) = true := by
   intro hb
   have h2 := h'.2
   rw [hb, embT_f] at h2
   simp only [Bool.not_true, Bool.false_or, Bool.and_eq_true] at h2
   cases ha with
   | mk _ _ _ hb he => exact ⟨okL_foldTs_of boxes d _ h2.1 (fun y hy => ih y (hb y hy)), okL_foldTs_of boxes d _ h2.2 (fun y hy => ih y (he y hy))⟩
  have hk : t.kd = 2 → isBlk (embT t) = true := fun e => (isBlk_iff _).mpr (.inl (by rw [embT_f]; exact e))
  rw [foldT_f]
  rcases pickT_cases t.kd t.va t.bx t.x.fold (foldTs t.b) (foldTs t.e) with ⟨e, e2⟩ | ⟨e, e2⟩ | e | ⟨e, _⟩
  ·rw [e]; exact okL_more (hblk (hk e2)).1
  ·rw [e]; exact okL_more (hblk (hk e2)).2
  ·rw [e, embTs]; rfl
  ·rw [e, embTs, embTs]
   unfold okL
   simp only [List.all_cons, List.all_nil, Bool.and_true, okOne, Bool.and_eq_true, Bool.or_eq_true]
   refine ⟨s2, ?_⟩
   cases hb : isBlk (embT t) with
   | false =>
    left
    rw [embT_f] at hb
    rw [embT_f]
    replace hb : (t.kd == 2 || t.kd == 3) = false := hb
    show (!(t.kd == 2 || t.kd == 3)) = true
    rw [hb]
    rfl
   | true =>
    right
    have := hblk hb
    rw [embT_f]
    exact this
theorem okL_fold (boxes : Int) (d : Nat) (l : List ST) (ha : ∀ t ∈ l, AX t) (h : okL boxes d (embTs l) = true) : okL boxes d (embTs (foldTs l)) = true :=
 okL_foldTs_of boxes d l h (fun t ht => okOne_fold boxes d t (ha t ht))
theorem okT_fold (boxes : Int) (l : List ST) (ha : ∀ t ∈ l, AX t) (h : okT boxes (embTs l) = true) : okT boxes (embTs (foldTs l)) = true := by
 rw [okT_iff] at h ⊢
 have := cT_foldTs l
 unfold cT at this
 exact ⟨okL_fold boxes 3 l ha h.1, by omega⟩
def tri (e : S32) : Int × Int × List S32 := (e.f0, e.f1, e.f2)
theorem impl_Wrap_eq (a : Int) : impl_Wrap.f a = some (wrap32 a) := by
 unfold impl_Wrap.f
 rw [w64_w32]
theorem spec_Wrap_eq (a : Int) : spec_Wrap.f a = some (wrap32 a) := by
 have ht : Int.tmod a 4294967296 = a % 4294967296 ∨ (a < 0 ∧ Int.tmod a 4294967296 = -((-a) % 4294967296)) := by
  rcases Int.le_total 0 a with h | h
  ·exact .inl (Int.tmod_eq_emod_of_nonneg h)
  ·by_cases h0 : a = 0
   ·subst h0
    exact .inl rfl
   ·refine .inr ⟨by omega, ?_⟩
    rw [← Int.tmod_eq_emod_of_nonneg (show 0 ≤ -a by omega), Int.neg_tmod, Int.neg_neg]
 unfold spec_Wrap.f
 generalize Int.tmod a 4294967296 = m at ht ⊢
 unfold wrap32
 by_cases h1 : m > 2147483647
 ·rw [if_pos h1, w64 (by omega) (by omega)]
  congr 1
  omega
 ·by_cases h2 : m < -2147483648
  ·rw [if_neg h1, if_pos h2, w64 (by omega) (by omega)]
   congr 1
   omega
  ·rw [if_neg h1, if_neg h2]
   congr 1
   omega
theorem impl_truth_eq (b : Bool) : impl_truth.f b = some (if b = true then 1 else 0) := by
 unfold impl_truth.f
 cases b <;> rfl
theorem spec_l2Flag_eq (b : Bool) : spec_l2Flag.f b = some (if b = true then 1 else 0) := by
 unfold spec_l2Flag.f
 cases b <;> rfl
theorem impl_apply_eq (op a b : Int) : impl_apply.f op a b = some (ap op a b) := by
 unfold impl_apply.f ap
 have hs := and31 b
 by_cases h1 : op = 1
 ·rw [if_pos h1, if_pos h1]
 rw [if_neg h1, if_neg h1]
 by_cases h2 : op = 2
 ·rw [if_pos h2, if_pos h2]
 rw [if_neg h2, if_neg h2]
 by_cases h3 : op = 3
 ·rw [if_pos h3, if_pos h3]
 rw [if_neg h3, if_neg h3]
 by_cases h4 : op = 4
 ·rw [if_pos h4, if_pos h4, impl_truth_eq]
  simp
 rw [if_neg h4, if_neg h4]
 by_cases h5 : op = 5
 ·rw [if_pos h5, if_pos h5, impl_truth_eq]
  simp
 rw [if_neg h5, if_neg h5]
 by_cases h6 : op = 6
 ·rw [if_pos h6, if_pos h6, if_pos hs.1, impl_Wrap_eq, Option.bind_some]
 rw [if_neg h6, if_neg h6]
 by_cases h7 : op = 7
 ·rw [if_pos h7, if_pos h7, if_pos hs.1]
 rw [if_neg h7, if_neg h7]
 by_cases h8 : op = 8
 ·rw [if_pos h8, if_pos h8, impl_Wrap_eq, Option.bind_some, w32_w64]
 rw [if_neg h8, if_neg h8]
 by_cases h9 : op = 9
 ·rw [if_pos h9, if_pos h9, impl_Wrap_eq, Option.bind_some, w32_w64]
 rw [if_neg h9, if_neg h9]
 by_cases h10 : op = 10
 ·rw [if_pos h10, if_pos h10, impl_Wrap_eq, Option.bind_some, w32_w64]
 rw [if_neg h10, if_neg h10]
 by_cases h11 : op = 11
 ·rw [if_pos h11, if_pos h11]
  by_cases hb : b = 0
  ·rw [if_pos hb, if_pos hb]
  ·rw [if_neg hb, if_neg hb, impl_Wrap_eq, Option.bind_some, w32_w64]
 rw [if_neg h11, if_neg h11]
 by_cases hb : b = 0
 ·rw [if_pos hb, if_pos hb]
 ·rw [if_neg hb, if_neg hb]
theorem spec_Apply_ev (op a b : Int) (ho : 1 ≤ op ∧ op ≤ 12) (ha : vw a = true) (hb : vw b = true) : EvP (fun k => spec_Apply.f k op a b) (· = (ap op a b, true)) := by
  have hs := and31 b
  unfold spec_Apply.f ap
  refine EvP.bind0 (spec_OpValid_eq op) (EvP.yes (by simp; exact ho) (EvP.bind0 (spec_WordValid_eq a) (EvP.yes ha (EvP.bind0 (spec_WordValid_eq b) ?_))))
  rw [hb]
  refine EvP.step (fun k => spec_Apply.j0.eq_2 (k := k) ..) (EvP.no (by simp) ?_)
  refine EvP.ite (fun h => EvP.ret (by rw [if_pos h])) (fun h => ?_)
  rw [if_neg h]
  refine EvP.ite (fun h => EvP.ret (by rw [if_pos h])) (fun h => ?_)
  rw [if_neg h]
  refine EvP.ite (fun h => EvP.ret (by rw [if_pos h])) (fun h => ?_)
  rw [if_neg h]
  refine EvP.ite (fun h => EvP.bind0 (spec_l2Flag_eq _) (EvP.ret (by rw [if_pos h]; simp))) (fun h => ?_)
  rw [if_neg h]
  refine EvP.ite (fun h => EvP.bind0 (spec_l2Flag_eq _) (EvP.ret (by rw [if_pos h]; simp))) (fun h => ?_)
  rw [if_neg h]
  refine EvP.ite (fun h => ?_) (fun h => ?_)
  · rw [if_pos h]
    unfold spec_l2Shift.f
    rw [if_neg (by simp), if_pos hs.1, spec_Wrap_eq, Option.bind_some]
    exact EvP.bind0 rfl (EvP.ret rfl)
  rw [if_neg h]
  refine EvP.ite (fun h => ?_) (fun h => ?_)
  · rw [if_pos h]
    unfold spec_l2Shift.f
    rw [if_pos rfl, if_pos hs.1]
    exact EvP.bind0 rfl (EvP.ret rfl)
  rw [if_neg h]
  refine EvP.ite (fun h => EvP.bind0 (spec_Wrap_eq _) (EvP.ret (by rw [if_pos h, w32_w64]))) (fun h => ?_)
  rw [if_neg h]
  refine EvP.ite (fun h => EvP.bind0 (spec_Wrap_eq _) (EvP.ret (by rw [if_pos h, w32_w64]))) (fun h => ?_)
  rw [if_neg h]
  refine EvP.ite (fun h => EvP.bind0 (spec_Wrap_eq _) (EvP.ret (by rw [if_pos h, w32_w64]))) (fun h => ?_)
  rw [if_neg h]
  refine EvP.ite (fun h => ?_) (fun h => ?_)
  · rw [if_pos h]
    unfold spec_l2Divide.f
    by_cases hz : b = 0
    · rw [if_pos hz, if_pos hz]
      exact EvP.bind0 rfl (EvP.ret rfl)
    · rw [if_neg hz, if_neg hz, spec_Wrap_eq, Option.bind_some, w32_w64]
      exact EvP.bind0 rfl (EvP.ret rfl)
  rw [if_neg h]
  unfold spec_l2Remain.f
  by_cases hz : b = 0
  · rw [if_pos hz, if_pos hz]
    exact EvP.bind0 rfl (EvP.ret rfl)
  · rw [if_neg hz, if_neg hz]
    exact EvP.bind0 rfl (EvP.ret rfl)
theorem emb_op {x : X} (h : x.ok) : (emb x).f0 = 0 ↔ ∃ n, x = .num n := by
 cases x with
 | num n => exact ⟨fun _ => ⟨n, rfl⟩, fun _ => rfl⟩
 | var v =>
  refine ⟨fun e => ?_, fun ⟨n, e⟩ => by cases e⟩
  simp [emb] at e
 | bin op a b =>
  refine ⟨fun e => ?_, fun ⟨n, e⟩ => by cases e⟩
  have e : op = 0 := e
  have ho := h.1
  omega
theorem impl_exprFold_ev : ∀ x : X, x.ok → EvP (fun k => impl_exprFold.f k (emb x).f0 (emb x).f1 (emb x).f2) (· = tri (emb x.fold))
  | .num n, h => EvP.step (fun k => impl_exprFold.f.eq_2 (k := k) ..) (EvP.yes rfl (EvP.ret rfl))
  | .var v, h => EvP.step (fun k => impl_exprFold.f.eq_2 (k := k) ..) (EvP.yes rfl (EvP.ret rfl))
  | .bin op a b, h => by
    have ha := X.fold_ok a h.2.1
    have hb := X.fold_ok b h.2.2
    have he : (X.bin op a b).fold = X.foldB op a.fold b.fold := rfl
    rw [he]
    refine EvP.step (fun k => impl_exprFold.f.eq_2 (k := k) ..) (EvP.no (by simp [emb]) (EvP.yes (by simp [emb]) ?_))
    refine EvP.bindEq (impl_exprFold_ev a h.2.1) (EvP.yes (by simp [emb]) (EvP.bindEq (impl_exprFold_ev b h.2.2) ?_))
    generalize a.fold = x at ha ⊢
    generalize b.fold = y at hb ⊢
    simp only [tri]
    have stay : (¬ ∃ m n, x = .num m ∧ y = .num n) → X.foldB op x y = .bin op x y := fun hn => X.foldB_of fun m n e1 e2 => absurd ⟨m, n, e1, e2⟩ hn
    refine EvP.ite (fun hx => ?_) (fun hx => ?_)
    · obtain ⟨m, rfl⟩ := (emb_op ha).1 hx
      refine EvP.step (fun k => impl_exprFold.j0.eq_2 (k := k) ..) (EvP.ite (fun hy => ?_) (fun hy => EvP.ret ?_))
      · obtain ⟨n, rfl⟩ := (emb_op hb).1 (by simpa using hy)
        refine EvP.bind0 (impl_apply_eq _ _ _) ?_
        simp only [emb, X.foldB]
        refine EvP.ite (fun h1 => EvP.ite (fun h2 => EvP.ret ?_) (fun h2 => EvP.ret ?_)) (fun h1 => EvP.ret ?_)
        · rw [if_pos ⟨h1, h2⟩]
          rfl
        · rw [if_neg (fun e => h2 e.2)]
          rfl
        · rw [if_neg (fun e => h1 e.1)]
          rfl
      · rw [stay (fun ⟨m', n, _, e⟩ => hy (by rw [e]; rfl))]
        simp only [emb, etaE]
    · refine EvP.step (fun k => impl_exprFold.j0.eq_2 (k := k) ..) (EvP.no (by simp) (EvP.ret ?_))
      rw [stay (fun ⟨m', n, e, _⟩ => hx (by rw [e]; rfl))]
      simp only [emb, etaE]
theorem spec_l4Fold_ev : ∀ x : X, x.ok → EvP (fun k => spec_l4Fold.f k (emb x).f0 (emb x).f1 (emb x).f2) (· = tri (emb x.fold))
  | .num n, h => EvP.step (fun k => spec_l4Fold.f.eq_2 (k := k) ..) (EvP.yes rfl (EvP.bind0 rfl (EvP.ret rfl)))
  | .var v, h => EvP.step (fun k => spec_l4Fold.f.eq_2 (k := k) ..) (EvP.yes rfl (EvP.bind0 rfl (EvP.ret rfl)))
  | .bin op a b, h => by
    have ha := X.fold_ok a h.2.1
    have hb := X.fold_ok b h.2.2
    have he : (X.bin op a b).fold = X.foldB op a.fold b.fold := rfl
    rw [he]
    refine EvP.step (fun k => spec_l4Fold.f.eq_2 (k := k) ..) (EvP.no (by simp [emb]) (EvP.yes (by simp [emb]) ?_))
    refine EvP.bindEq (spec_l4Fold_ev a h.2.1) (EvP.yes (by simp [emb]) (EvP.bindEq (spec_l4Fold_ev b h.2.2) ?_))
    generalize a.fold = x at ha ⊢
    generalize b.fold = y at hb ⊢
    simp only [tri]
    have stay : (¬ ∃ m n, x = .num m ∧ y = .num n) → X.foldB op x y = .bin op x y := fun hn => X.foldB_of fun m n e1 e2 => absurd ⟨m, n, e1, e2⟩ hn
    refine EvP.ite (fun hx => ?_) (fun hx => ?_)
    · obtain ⟨m, rfl⟩ := (emb_op ha).1 hx
      refine EvP.step (fun k => spec_l4Fold.j0.eq_2 (k := k) ..) (EvP.ite (fun hy => ?_) (fun hy => EvP.bind0 rfl (EvP.ret ?_)))
      · obtain ⟨n, rfl⟩ := (emb_op hb).1 (by simpa using hy)
        have hm : 0 ≤ m ∧ m ≤ 99999 := ha
        have hn : 0 ≤ n ∧ n ≤ 99999 := hb
        refine EvP.bindEq (spec_Apply_ev _ _ _ h.1 (vw_iff.2 (by simp only [emb]; omega)) (vw_iff.2 (by simp only [emb]; omega))) (EvP.bind0 (l6In_eq _ _ _) ?_)
        simp only [emb, X.foldB]
        refine EvP.ite (fun h1 => EvP.bind0 rfl (EvP.ret ?_)) (fun h1 => EvP.bind0 rfl (EvP.ret ?_))
        · rw [Bool.and_eq_true] at h1
          rw [if_pos ⟨of_decide_eq_true h1.1, of_decide_eq_true h1.2⟩]
          rfl
        · rw [Bool.and_eq_true] at h1
          rw [if_neg (fun e => h1 ⟨decide_eq_true e.1, decide_eq_true e.2⟩)]
          rfl
      · rw [stay (fun ⟨m', n, _, e⟩ => hy (by rw [e]; rfl))]
        simp only [emb, etaE]
    · refine EvP.step (fun k => spec_l4Fold.j0.eq_2 (k := k) ..) (EvP.no (by simp) (EvP.bind0 rfl (EvP.ret ?_)))
      rw [stay (fun ⟨m', n, e, _⟩ => hx (by rw [e]; rfl))]
      simp only [emb, etaE]
theorem sameExpr_0 (o n : Int) : EvP (fun k => laws_sameExpr.f k o n ([] : List S32) o n []) (· = true) := by
  refine EvP.step (fun k => laws_sameExpr.f.eq_2 (k := k) ..) (EvP.yes rfl (EvP.yes rfl ?_))
  refine EvP.step (fun k => laws_sameExpr.j0.eq_2 (k := k) ..) (EvP.no (by simp) ?_)
  exact EvP.step (fun k => laws_sameExpr.l0.eq_2 (k := k) ..) (EvP.no (by simp) (EvP.ret rfl))
theorem sameExpr_ev : ∀ x : X, EvP (fun k => laws_sameExpr.f k (emb x).f0 (emb x).f1 (emb x).f2 (emb x).f0 (emb x).f1 (emb x).f2) (· = true)
  | .num n => sameExpr_0 _ _
  | .var v => sameExpr_0 _ _
  | .bin op a b => by
    refine EvP.step (fun k => laws_sameExpr.f.eq_2 (k := k) ..) (EvP.yes rfl (EvP.yes rfl ?_))
    refine EvP.step (fun k => laws_sameExpr.j0.eq_2 (k := k) ..) (EvP.no (by simp) ?_)
    simp only [emb]
    refine EvP.step (fun k => laws_sameExpr.l0.eq_2 (k := k) ..) (EvP.yes (by simp) (EvP.yes (by omega) (EvP.yes (by simp) ?_)))
    rw [rdE_0]
    refine EvP.bindEq (sameExpr_ev a) (EvP.yes rfl ?_)
    rw [w64 (by omega) (by omega), show (0 : Int) + 1 = 1 from rfl]
    refine EvP.step (fun k => laws_sameExpr.l0.eq_2 (k := k) ..) (EvP.yes (by simp) (EvP.yes (by omega) (EvP.yes (by simp) ?_)))
    rw [rdE_1]
    refine EvP.bindEq (sameExpr_ev b) (EvP.yes rfl ?_)
    rw [w64 (n := 1 + 1) (by omega) (by omega), show (1 : Int) + 1 = 2 from rfl]
    exact EvP.step (fun k => laws_sameExpr.l0.eq_2 (k := k) ..) (EvP.no (by simp) (EvP.ret rfl))
end Go.Proofs.Ytodhbeeibagiaaa.PA

namespace Go.Proofs.Ytodhbeeibagiaaa.PA
open Go.RowKit Go.Proofs.YtodhbeeibagiaaaW.PrintWords Go.Proofs.Ytodhbeeibagiaaa.Core
theorem xor_nonneg (x y : Int) (hx : 0 ≤ x) (hx1 : x < 4611686018427387904) (hy : 0 ≤ y) (hy1 : y < 4611686018427387904) : 0 ≤ Go.bits .xor .i64 x y := by
 obtain ⟨a, rfl⟩ := Int.eq_ofNat_of_zero_le hx
 obtain ⟨b, rfl⟩ := Int.eq_ofNat_of_zero_le hy
 have ha : a < 2 ^ 62 := by omega
 have hb : b < 2 ^ 62 := by omega
 have hx := Nat.xor_lt_two_pow ha hb
 simp only [Go.bits, BitVec.ofInt_natCast, BitVec.toNat_xor, BitVec.toNat_ofNat]
 rw [show IntKind.i64.bits = 64 from rfl, Nat.mod_eq_of_lt (a := a) (by omega), Nat.mod_eq_of_lt (a := b) (by omega), IntKind.wrap_i64]
 omega
def Bytes (b : List Int) : Prop := b.length ≤ 2000 ∧ ∀ x ∈ b, 0 ≤ x ∧ x ≤ 255
theorem Bytes.rd {b : List Int} (h : Bytes b) (i : Int) (h0 : 0 ≤ i) (h1 : i < b.length) : 0 ≤ Go.Proofs.YtodhbeeibagiaaaW.PrintWords.rd b i ∧ Go.Proofs.YtodhbeeibagiaaaW.PrintWords.rd b i ≤ 255 := h.2 _ (rd_mem b i h0 h1)
theorem open_bytes (l : List Int) (hl : l.length ≤ 140737488351232) (hw : ∀ x ∈ l, (Lit.int .u8 x).wf = true) : ∃ b, spec_l6Open.f l = some (b, 0) ∧ Bytes b := by
 have hb : ∀ x ∈ l, 0 ≤ x ∧ x ≤ 255 := by
  intro x hx
  have h := hw x hx
  simp only [Lit.wf, Bool.and_eq_true, decide_eq_true_eq] at h
  have e1 : IntKind.u8.min = 0 := by decide
  have e2 : IntKind.u8.max = 255 := by decide
  omega
 unfold spec_l6Open.f
 by_cases h : (l.length : Int) > 2000
 ·rw [if_pos h, if_pos (by omega)]
  exact ⟨_, rfl, by rw [List.length_take]; omega, fun x hx => hb x (List.mem_of_mem_take hx)⟩
 ·rw [if_neg h]
  exact ⟨_, rfl, by omega, hb⟩
def Picked (p n : Int) (r : Int × Int) : Prop := r.2 = p + 1 ∧ 0 ≤ r.1 ∧ (1 ≤ n → r.1 < n) ∧ (n < 1 → r.1 = 0)
theorem pick_ev (b : List Int) (hb : Bytes b) (p n : Int) (h0 : 0 ≤ p) (h1 : p ≤ 1000000000000) : EvP (fun k => spec_l6Rd_pick.f k b p n) (Picked p n) := by
 unfold spec_l6Rd_pick.f
 rw [w64 (n := p + 1) (by omega) (by omega)]
 have hz : EvP (fun k => spec_l6Rd_pick.j0 k n true b (p + 1)) (fun r => r.2 = p + 1 ∧ r.1 = 0) :=
  EvP.step (fun k => spec_l6Rd_pick.j0.eq_2 (k := k) ..) (EvP.yes rfl (EvP.ret ⟨rfl, rfl⟩))
 refine EvP.ite (fun h => ?_) (fun h => ?_)
 ·exact hz.mono fun r hr => ⟨hr.1, by omega, fun _ => by omega, fun _ => hr.2⟩
 ·cases hl : ((b.length : Int) == 0) with
  | true => exact hz.mono fun r hr => ⟨hr.1, by omega, fun _ => by omega, fun _ => hr.2⟩
  | false =>
   have hl' : (b.length : Int) ≠ 0 := by simpa using hl
   have hbl := hb.1
   refine EvP.step (fun k => spec_l6Rd_pick.j0.eq_2 (k := k) ..) (EvP.no (by decide) ?_)
   rw [w64 (n := p + 1 - 1) (by omega) (by omega), show p + 1 - 1 = p by omega]
   refine EvP.ite (fun h2 => ?_) (fun h2 => ?_)
   ·refine EvP.yes h0 (EvP.no (by omega) (EvP.ret ?_))
    have hr := hb.rd p h0 h2
    rw [w64 (by omega) (by omega)]
    have ht := tm_range hr.1 (show 0 < n by omega)
    exact ⟨rfl, ht.1, fun _ => ht.2, fun _ => by omega⟩
   ·have t1 := tm_range h0 (show (0 : Int) < b.length by omega)
    have t2 := tm_range (show 0 ≤ p * 7 + 3 by omega) (show (0 : Int) < b.length by omega)
    rw [w64 (n := p * 7) (by omega) (by omega), w64 (n := p * 7 + 3) (by omega) (by omega)]
    refine EvP.no hl' (EvP.yes t1.1 (EvP.yes t1.2 (EvP.yes t2.1 (EvP.yes t2.2 (EvP.no (by omega) (EvP.ret ?_))))))
    have r1 := hb.rd _ t1.1 t1.2
    have r2 := hb.rd _ t2.1 t2.2
    have hd0 : 0 ≤ Int.tdiv p b.length := Int.tdiv_nonneg h0 (by omega)
    have hd1 : Int.tdiv p b.length ≤ p := by
     rw [Int.tdiv_eq_ediv_of_nonneg h0]
     exact Int.ediv_le_self _ h0
    generalize Go.Proofs.YtodhbeeibagiaaaW.PrintWords.rd b (Int.tmod p b.length) = x1 at *
    generalize Go.Proofs.YtodhbeeibagiaaaW.PrintWords.rd b (Int.tmod (p * 7 + 3) b.length) = x2 at *
    generalize Int.tdiv p b.length = q at *
    simp only [w64 (n := x1) (by omega) (by omega), w64 (n := x2) (by omega) (by omega), w64 (n := q) (by omega) (by omega)]
    simp only [w64 (n := x1 * 131) (by omega) (by omega), w64 (n := x2 * 1117) (by omega) (by omega), w64 (n := p * 29) (by omega) (by omega), w64 (n := q * 53) (by omega) (by omega)]
    simp only [w64 (n := x1 * 131 + x2 * 1117) (by omega) (by omega)]
    simp only [w64 (n := x1 * 131 + x2 * 1117 + p * 29) (by omega) (by omega)]
    simp only [w64 (n := x1 * 131 + x2 * 1117 + p * 29 + q * 53) (by omega) (by omega)]
    have hs0 : 0 ≤ x1 * 131 + x2 * 1117 + p * 29 + q * 53 := by omega
    have hs1 : x1 * 131 + x2 * 1117 + p * 29 + q * 53 < 1000000000000000 := by omega
    generalize x1 * 131 + x2 * 1117 + p * 29 + q * 53 = s at *
    have hv0 : 0 ≤ Int.tdiv s 64 := Int.tdiv_nonneg hs0 (by omega)
    have hv1 : Int.tdiv s 64 ≤ s := by
     rw [Int.tdiv_eq_ediv_of_nonneg hs0]
     exact Int.ediv_le_self _ hs0
    rw [w64 (n := Int.tdiv s 64) (by omega) (by omega)]
    have hx := xor_nonneg s (Int.tdiv s 64) hs0 (by omega) hv0 (by omega)
    have ht := tm_range hx (show 0 < n by omega)
    exact ⟨rfl, ht.1, fun _ => ht.2, fun _ => by omega⟩
theorem pick_then {β : Type} {b : List Int} (hb : Bytes b) {p n : Int} (h0 : 0 ≤ p) (h1 : p ≤ 1000000000000) {f : Nat → Int × Int → Option β} {R : β → Prop}
  (k : ∀ v, 0 ≤ v → (1 ≤ n → v < n) → (n < 1 → v = 0) → EvP (fun m => f m (v, p + 1)) R) : EvP (fun m => (spec_l6Rd_pick.f m b p n).bind (f m)) R :=
 EvP.bind (pick_ev b hb p n h0 h1) (fun r hr => by
  obtain ⟨v, q⟩ := r
  obtain ⟨e, k0, k1, k2⟩ := hr
  obtain rfl : q = p + 1 := e
  exact k v k0 k1 k2)
theorem l91Op_ev (b : List Int) (hb : Bytes b) (p : Int) (h0 : 0 ≤ p) (h1 : p ≤ 900000000000) : EvP (fun k => spec_l91Op.f k b p) (fun r => r.2 = p + 1 ∧ 1 ≤ r.1 ∧ r.1 ≤ 12) := by
 unfold spec_l91Op.f
 refine pick_then hb h0 (by omega) fun v v0 v1 _ => ?_
 have := v1 (by omega)
 dsimp only
 rw [w64 (by omega) (by omega)]
 exact EvP.ret (by dsimp only; omega)
theorem l91Leaf_ev (b : List Int) (hb : Bytes b) (p : Int) (h0 : 0 ≤ p) (h1 : p ≤ 900000000000) : EvP (fun k => spec_l91Leaf.f k b p) (fun r => p ≤ r.2.2.2 ∧ r.2.2.2 ≤ p + 2 ∧ r.2.2.1.length = 0) := by
 unfold spec_l91Leaf.f
 refine pick_then hb h0 (by omega) fun v v0 v1 _ => ?_
 dsimp only
 refine EvP.ite (fun h => ?_) (fun h => ?_)
 ·refine pick_then hb (by omega) (by omega) fun v2 w0 w1 _ => ?_
  exact EvP.bind0 rfl (EvP.ret (by simp; omega))
 ·refine EvP.ite (fun h => ?_) (fun h => ?_)
  ·refine EvP.bind0 rfl (pick_then hb (by omega) (by omega) fun v2 w0 w1 _ => ?_)
   have := w1 (by omega)
   exact EvP.yes w0 (EvP.yes (by simp; omega) (EvP.bind0 rfl (EvP.ret (by simp; omega))))
  ·refine pick_then hb (by omega) (by omega) fun v2 w0 w1 _ => ?_
   exact EvP.bind0 rfl (EvP.ret (by simp; omega))
theorem l91Expr_ev (b : List Int) (hb : Bytes b) : ∀ (d : Nat) (p : Int), d ≤ 10 → 0 ≤ p → p + 4 ^ (d + 1) ≤ 800000000000 → EvP (fun k => spec_l91Expr.f k b p (d : Int)) (fun r => p ≤ r.2.2.2 ∧ r.2.2.2 ≤ p + 4 ^ (d + 1) ∧ r.2.2.1.length ≤ 2) := by
 intro d
 have leaf : ∀ (d' : Int) (q : Int) (p : Int) (m : Nat), 0 ≤ q → q ≤ 800000000000 → p ≤ q → q + 2 ≤ p + 4 ^ (m + 1) → EvP (fun k => spec_l91Expr.j0 k d' true b q) (fun r => p ≤ r.2.2.2 ∧ r.2.2.2 ≤ p + 4 ^ (m + 1) ∧ r.2.2.1.length ≤ 2) := by
  intro d' q p m h0 h1 h2 h3
  refine EvP.step (fun k => spec_l91Expr.j0.eq_2 (k := k) ..) (EvP.yes rfl ?_)
  refine EvP.bind (l91Leaf_ev b hb q h0 (by omega)) fun r hr => ?_
  exact EvP.ret (by dsimp only; omega)
 induction d with
 | zero =>
  intro p hd h0 h1
  refine EvP.step (fun k => spec_l91Expr.f.eq_2 (k := k) ..) (EvP.yes (by omega) ?_)
  exact leaf _ p p 0 h0 (by omega) (by omega) (by omega)
 | succ d ih =>
  intro p hd h0 h1
  have h4 : (4 : Int) ^ (d + 1 + 1) = 4 * 4 ^ (d + 1) := by rw [Int.pow_succ, Int.mul_comm]
  have h5 : (4 : Int) ≤ 4 ^ (d + 1) := by
   have : 0 < (4 : Int) ^ d := Int.pow_pos (by omega)
   rw [Int.pow_succ]
   omega
  refine EvP.step (fun k => spec_l91Expr.f.eq_2 (k := k) ..) (EvP.ite (fun h => ?_) (fun h => ?_))
  ·exact leaf _ p p (d + 1) h0 (by omega) (by omega) (by omega)
  ·refine pick_then hb h0 (by omega) fun v v0 v1 _ => ?_
   dsimp only
   cases hv : (v == 0) with
   | true => exact leaf _ (p + 1) p (d + 1) (by omega) (by omega) (by omega) (by omega)
   | false =>
    refine EvP.step (fun k => spec_l91Expr.j0.eq_2 (k := k) ..) (EvP.no (by simp) ?_)
    rw [w64 (by omega) (by omega), show ((d + 1 : Nat) : Int) - 1 = (d : Int) by omega]
    refine EvP.bind (l91Op_ev b hb (p + 1) (by omega) (by omega)) fun r hr => ?_
    refine EvP.bind (ih r.2 (by omega) (by omega) (by omega)) fun s hs => ?_
    refine EvP.bind (ih s.2.2.2 (by omega) (by omega) (by omega)) fun u hu => ?_
    exact EvP.bind0 rfl (EvP.ret (by simp; omega))
theorem l91Expr_ev' (b : List Int) (hb : Bytes b) (d : Int) (p : Int) (hd0 : 0 ≤ d) (hd : d ≤ 5) (h0 : 0 ≤ p) (h1 : p ≤ 700000000000) : EvP (fun k => spec_l91Expr.f k b p d) (fun r => p ≤ r.2.2.2 ∧ r.2.2.2 ≤ p + 4096 ∧ r.2.2.1.length ≤ 2) := by
 have hp : (4 : Int) ^ (d.toNat + 1) ≤ 4096 := by
  have : d.toNat ≤ 5 := by omega
  have h2 : 4 ^ (d.toNat + 1) ≤ 4 ^ 6 := Nat.pow_le_pow_right (by omega) (by omega)
  have h3 : ((4 ^ (d.toNat + 1) : Nat) : Int) ≤ 4096 := by omega
  rw [Int.natCast_pow] at h3
  exact h3
 have h := l91Expr_ev b hb d.toNat p (by omega) h0 (by omega)
 rw [Int.toNat_of_nonneg hd0] at h
 exact h.mono fun r hr => by omega
def cB : Nat → Nat
 | 0 => 1
 | d + 1 => 4 * cB d + 3
def pB : Nat → Nat
 | 0 => 5000
 | d + 1 => 4 * pB d + 5000
theorem cB_le {d : Nat} (h : d ≤ 3) : 1 ≤ cB d ∧ cB d ≤ 127 := by
 match d, h with
 | 0, _ => decide
 | 1, _ => decide
 | 2, _ => decide
 | 3, _ => decide
theorem pB_le {d : Nat} (h : d ≤ 3) : 5000 ≤ pB d ∧ pB d ≤ 425000 := by
 match d, h with
 | 0, _ => decide
 | 1, _ => decide
 | 2, _ => decide
 | 3, _ => decide
def DS (p : Int) (P C : Nat) (r : Int × Int × Int × Int × Int × (List (S32)) × (List (S35)) × (List (S35)) × Int) : Prop :=
 p ≤ r.2.2.2.2.2.2.2.2 ∧ r.2.2.2.2.2.2.2.2 ≤ p + P ∧ cSs r.2.2.2.2.2.2.1 + cSs r.2.2.2.2.2.2.2.1 ≤ C
def DL (p : Int) (P C : Nat) (r : List (S35) × Int) : Prop := p ≤ r.2 ∧ r.2 ≤ p + P ∧ cSs r.1 ≤ C
theorem l92Set_ev (b : List Int) (hb : Bytes b) (p : Int) (h0 : 0 ≤ p) (h1 : p ≤ 600000000000) : EvP (fun k => spec_l92Set.f k b p) (DS p 4100 0) := by
 unfold spec_l92Set.f
 refine pick_then hb h0 (by omega) fun v v0 v1 _ => ?_
 refine pick_then hb (by dsimp only; omega) (by dsimp only; omega) fun u u0 u1 _ => ?_
 have := u1 (by omega)
 dsimp only
 rw [w64 (by omega) (by omega)]
 refine EvP.bind (l91Expr_ev' b hb _ _ (by omega) (by omega) (by omega) (by omega)) fun r hr => EvP.ret ?_
 unfold DS
 simp only [cSs_nil]
 omega
theorem l92Talk_ev (b : List Int) (hb : Bytes b) (p a1 : Int) (h0 : 0 ≤ p) (h1 : p ≤ 500000000000) : EvP (fun k => spec_l92Talk.f k b p a1) (DS p 4200 0) := by
 unfold spec_l92Talk.f
 refine EvP.ite (fun h => ?_) (fun h => ?_)
 ·refine EvP.bind (l92Set_ev b hb p h0 (by omega)) fun r hr => EvP.ret ?_
  unfold DS at hr ⊢
  dsimp only
  omega
 ·refine pick_then hb h0 (by omega) fun v v0 v1 _ => ?_
  refine pick_then hb (by dsimp only; omega) (by dsimp only; omega) fun u u0 u1 _ => ?_
  dsimp only
  refine EvP.ite (fun h => ?_) (fun h => ?_)
  ·refine pick_then hb (by omega) (by omega) fun w w0 w1 _ => ?_
   have := w1 (by omega)
   dsimp only
   rw [w64 (by omega) (by omega)]
   refine EvP.bind (l91Expr_ev' b hb _ _ (by omega) (by omega) (by omega) (by omega)) fun r hr => EvP.ret ?_
   unfold DS
   simp only [cSs_nil]
   omega
  ·refine pick_then hb (by omega) (by omega) fun w w0 w1 _ => EvP.ret ?_
   unfold DS
   simp only [cSs_nil]
   omega
theorem l92Block_l0 (b : List Int) (x1 x2 : Int) (x4 : Bool) (P C : Nat) (M : Int)
  (stmt : ∀ p, 0 ≤ p → p ≤ M → EvP (fun k => spec_l92Stmt.f k b p x1 x2 x4) (DL p P C)) (n : Int) :
  ∀ (r j : Nat) (l : List (S35)) (p : Int), (j : Int) + r = n → j + r ≤ 100 → cSs l + r * C ≤ 1000000 → 0 ≤ p → p + ((r * P : Nat) : Int) ≤ M →
   EvP (fun k => spec_l92Block.l0 k x1 x2 n x4 l (j : Int) b p) (DL p (r * P) (cSs l + r * C)) := by
 intro r
 induction r with
 | zero =>
  intro j l p hj hr hl h0 h1
  refine EvP.step (fun k => spec_l92Block.l0.eq_2 (k := k) ..) (EvP.no (by omega) (EvP.ret ?_))
  unfold DL
  dsimp only
  omega
 | succ r ih =>
  intro j l p hj hr hl h0 h1
  have e1 : (r + 1) * P = r * P + P := Nat.succ_mul r P
  have e2 : (r + 1) * C = r * C + C := Nat.succ_mul r C
  rw [e1] at h1 ⊢
  rw [e2] at hl ⊢
  refine EvP.step (fun k => spec_l92Block.l0.eq_2 (k := k) ..) (EvP.yes (by omega) ?_)
  refine EvP.bind (stmt p h0 (by omega)) fun s hs => ?_
  obtain ⟨s0, s1, s2⟩ := hs
  have l1 := cSs_length l
  have l2 := cSs_length s.1
  have ha := cSs_append l s.1
  refine EvP.yes (by omega) ?_
  rw [w64 (by omega) (by omega)]
  refine (ih (j + 1) (l ++ s.1) s.2 (by omega) (by omega) (by omega) (by omega) (by omega)).mono fun a ha => ?_
  unfold DL at ha ⊢
  omega
theorem l92Block_of (b : List Int) (x1 x2 : Int) (x4 : Bool) (P C : Nat) (M : Int)
  (stmt : ∀ p, 0 ≤ p → p ≤ M → EvP (fun k => spec_l92Stmt.f k b p x1 x2 x4) (DL p P C)) (n : Int) (m : Nat) (hn0 : 0 ≤ n) (hn : n ≤ m) (hm : m ≤ 100) (hC : m * C ≤ 1000000) (p : Int) (h0 : 0 ≤ p) (h1 : p + ((m * P : Nat) : Int) ≤ M) :
  EvP (fun k => spec_l92Block.f k b p x1 x2 n x4) (DL p (m * P) (m * C)) := by
 have hnm : n.toNat ≤ m := by omega
 have e1 : n.toNat * P ≤ m * P := Nat.mul_le_mul_right P hnm
 have e2 : n.toNat * C ≤ m * C := Nat.mul_le_mul_right C hnm
 refine EvP.step (fun k => spec_l92Block.f.eq_2 (k := k) ..) ?_
 refine (l92Block_l0 b x1 x2 x4 P C M stmt n n.toNat 0 [] p (by omega) (by omega) (by rw [cSs_nil]; omega) h0 (by omega)).mono fun a ha => ?_
 unfold DL at ha ⊢
 rw [cSs_nil] at ha
 omega
theorem l92If_of (b : List Int) (hb : Bytes b) (x1 a2 : Int) (x4 : Bool) (P C : Nat) (hP : P ≤ 1000000) (hC : C ≤ 1000) (M : Int) (hM : M ≤ 300000000000)
  (stmt : ∀ p, 0 ≤ p → p ≤ M → EvP (fun k => spec_l92Stmt.f k b p x1 (wrap64 (a2 - 1)) x4) (DL p P C)) (p : Int) (h0 : 0 ≤ p) (h1 : p + 10000000 ≤ M) :
  EvP (fun k => spec_l92If.f k b p x1 a2 x4) (DS p (4 * P + 4200) (4 * C)) := by
 refine EvP.step (fun k => spec_l92If.f.eq_2 (k := k) ..) ?_
 refine pick_then hb h0 (by omega) fun v v0 v1 _ => ?_
 have := v1 (by omega)
 dsimp only
 rw [w64 (n := 1 + v) (by omega) (by omega)]
 refine EvP.bind (l91Expr_ev' b hb _ _ (by omega) (by omega) (by omega) (by omega)) fun r hr => ?_
 refine pick_then hb (by omega) (by omega) fun u u0 u1 _ => ?_
 have := u1 (by omega)
 refine EvP.bind (l92Block_of b x1 _ x4 P C M stmt u 2 u0 (by omega) (by omega) (by omega) _ (by dsimp only; omega) (by dsimp only; omega)) fun s hs => ?_
 obtain ⟨s0, s1, s2⟩ := hs
 dsimp only at s0 s1
 refine pick_then hb (by omega) (by omega) fun w w0 w1 _ => ?_
 have := w1 (by omega)
 refine EvP.bind (l92Block_of b x1 _ x4 P C M stmt w 2 w0 (by omega) (by omega) (by omega) _ (by dsimp only; omega) (by dsimp only; omega)) fun t ht => EvP.ret ?_
 obtain ⟨t0, t1, t2⟩ := ht
 dsimp only at t0 t1
 unfold DS
 dsimp only
 omega
theorem l92Loop_of (b : List Int) (hb : Bytes b) (x1 a2 : Int) (P C : Nat) (hP : P ≤ 1000000) (hC : C ≤ 1000) (M : Int) (hM : M ≤ 300000000000)
  (stmt : ∀ p, 0 ≤ p → p ≤ M → EvP (fun k => spec_l92Stmt.f k b p x1 (wrap64 (a2 - 1)) false) (DL p P C)) (p : Int) (h0 : 0 ≤ p) (h1 : p + 10000000 ≤ M) :
  EvP (fun k => spec_l92Loop.f k b p x1 a2) (DL p (2 * P + 10) (2 * C + 3)) := by
 refine EvP.step (fun k => spec_l92Loop.f.eq_2 (k := k) ..) ?_
 refine pick_then hb h0 (by omega) fun v v0 v1 _ => ?_
 have := v1 (by omega)
 refine EvP.bind (l92Block_of b x1 _ false P C M stmt v 2 v0 (by omega) (by omega) (by omega) _ (by dsimp only; omega) (by dsimp only; omega)) fun s hs => ?_
 obtain ⟨s0, s1, s2⟩ := hs
 dsimp only at s0 s1
 refine EvP.bind0 rfl (EvP.bind0 rfl (EvP.bind0 rfl (EvP.bind0 rfl ?_)))
 refine pick_then hb (by omega) (by omega) fun u u0 u1 _ => ?_
 refine EvP.bind0 rfl (EvP.bind0 rfl (EvP.bind0 rfl ?_))
 have l1 := cSs_length s.1
 refine EvP.yes (by simp; omega) (EvP.bind0 rfl (EvP.ret ?_))
 unfold DL
 simp only [cSs, cS, cSs_append]
 omega
theorem l92Stmt_j2 (b : List Int) (hb : Bytes b) (x1 x10 : Int) (x : Bool) (p : Int) (h0 : 0 ≤ p) (h1 : p ≤ 300000000000) :
  EvP (fun k => spec_l92Stmt.j2 k x1 x10 x b p) (DL p 4300 1) := by
 refine EvP.step (fun k => spec_l92Stmt.j2.eq_2 (k := k) ..) (EvP.ite (fun h => ?_) (fun h => EvP.ite (fun h => EvP.ret ?_) (fun h => ?_)))
 ·refine EvP.bind (l92Talk_ev b hb p x1 h0 (by omega)) fun r hr => EvP.ret ?_
  unfold DS at hr
  unfold DL
  simp only [cSs, cS]
  omega
 ·unfold DL
  simp only [cSs, cS]
  omega
 ·refine pick_then hb h0 (by omega) fun u u0 u1 _ => ?_
  have := u1 (by omega)
  dsimp only
  rw [w64 (by omega) (by omega)]
  refine EvP.bind (l91Expr_ev' b hb _ _ (by omega) (by omega) (by omega) (by omega)) fun r hr => EvP.ret ?_
  unfold DL
  simp only [cSs, cS]
  omega
theorem l92Stmt_ev (b : List Int) (hb : Bytes b) : ∀ (d : Nat) (a2 : Int) (x1 : Int) (x3 : Bool) (p : Int), d ≤ 3 → a2 = d → 0 ≤ p → p + (d : Int) * 20000000 ≤ 200000000000 → EvP (fun k => spec_l92Stmt.f k b p x1 a2 x3) (DL p (pB d) (cB d)) := by
 intro d
 induction d with
 | zero =>
  intro a2 x1 x3 p hd ha h0 h1
  have j2 : ∀ (q x10 : Int) (x : Bool), p ≤ q → q ≤ p + 1 → EvP (fun k => spec_l92Stmt.j2 k x1 x10 x b q) (DL p (pB 0) (cB 0)) := fun q x10 x hq hq2 => (l92Stmt_j2 b hb x1 x10 x q (by omega) (by omega)).mono fun r hr => by
   unfold DL at hr ⊢
   simp only [pB, cB]
   omega
  have pr : ∀ q : Int, p ≤ q → q ≤ p + 1 → EvP (fun k => (spec_l6Rd_pick.f k b q 3).bind fun bt442 => ((spec_l91Expr.f k b bt442.2 (wrap64 (1 + bt442.1))).bind fun bt444 => (some ((([(⟨7, 0, 0, (⟨bt444.1, bt444.2.1, bt444.2.2.1⟩ : S32), ([] : List (S35)), ([] : List (S35))⟩ : S35)] : List (S35))), bt444.2.2.2)))) (DL p (pB 0) (cB 0)) := by
   intro q hq hq2
   refine pick_then hb (by omega) (by omega) fun u u0 u1 _ => ?_
   have := u1 (by omega)
   dsimp only
   rw [w64 (by omega) (by omega)]
   refine EvP.bind (l91Expr_ev' b hb _ _ (by omega) (by omega) (by omega) (by omega)) fun r hr => EvP.ret ?_
   unfold DL
   simp only [cSs, cS, pB, cB]
   omega
  have j1 : ∀ q : Int, p ≤ q → q ≤ p + 1 → EvP (fun k => spec_l92Stmt.j1 k x1 a2 false b q) (DL p (pB 0) (cB 0)) := fun q hq hq2 =>
   EvP.step (fun k => spec_l92Stmt.j1.eq_2 (k := k) ..) (EvP.no Bool.false_ne_true (pr q hq hq2))
  have j0 : ∀ (q x10 : Int) (x : Bool), p ≤ q → q ≤ p + 1 → EvP (fun k => spec_l92Stmt.j0 k x1 a2 x3 x10 x b q) (DL p (pB 0) (cB 0)) := by
   intro q x10 x hq hq2
   refine EvP.step (fun k => spec_l92Stmt.j0.eq_2 (k := k) ..) (EvP.ite (fun h => ?_) (fun h => EvP.ite (fun h => EvP.no (by omega) (pr q hq hq2)) (fun h => EvP.ite (fun h => EvP.no (by omega) (j1 q hq hq2)) (fun h => EvP.ite (fun h => j2 q _ _ hq hq2) (fun h => EvP.ite (fun h => j2 q _ _ hq hq2) (fun h => j2 q _ _ hq hq2))))))
   refine EvP.bind (l92Set_ev b hb q (by omega) (by omega)) fun r hr => EvP.ret ?_
   unfold DS at hr
   unfold DL
   simp only [cSs, cS, pB, cB]
   omega
  refine EvP.step (fun k => spec_l92Stmt.f.eq_2 (k := k) ..) (pick_then hb h0 (by omega) fun u u0 u1 _ => ?_)
  dsimp only
  exact EvP.ite (fun h => j0 _ _ _ (by omega) (by omega)) (fun h => j0 _ _ _ (by omega) (by omega))
 | succ d ih =>
  intro a2 x1 x3 p hd ha h0 h1
  have hc := cB_le (show d ≤ 3 by omega)
  have hp := pB_le (show d ≤ 3 by omega)
  have ec : cB (d + 1) = 4 * cB d + 3 := rfl
  have ep : pB (d + 1) = 4 * pB d + 5000 := rfl
  have ew : wrap64 (a2 - 1) = (d : Int) := by
   rw [w64 (by omega) (by omega)]
   omega
  have stmt : ∀ (x4 : Bool) (p : Int), 0 ≤ p → p ≤ 200000000000 - (d : Int) * 20000000 → EvP (fun k => spec_l92Stmt.f k b p x1 (wrap64 (a2 - 1)) x4) (DL p (pB d) (cB d)) := fun x4 p h0 h1 => ih _ x1 x4 p (by omega) ew h0 (by omega)
  have j2 : ∀ (q x10 : Int) (x : Bool), p ≤ q → q ≤ p + 1 → EvP (fun k => spec_l92Stmt.j2 k x1 x10 x b q) (DL p (pB (d + 1)) (cB (d + 1))) := fun q x10 x hq hq2 => (l92Stmt_j2 b hb x1 x10 x q (by omega) (by omega)).mono fun r hr => by
   unfold DL at hr ⊢
   omega
  have pr : ∀ q : Int, p ≤ q → q ≤ p + 1 → EvP (fun k => (spec_l6Rd_pick.f k b q 3).bind fun bt442 => ((spec_l91Expr.f k b bt442.2 (wrap64 (1 + bt442.1))).bind fun bt444 => (some ((([(⟨7, 0, 0, (⟨bt444.1, bt444.2.1, bt444.2.2.1⟩ : S32), ([] : List (S35)), ([] : List (S35))⟩ : S35)] : List (S35))), bt444.2.2.2)))) (DL p (pB (d + 1)) (cB (d + 1))) := by
   intro q hq hq2
   refine pick_then hb (by omega) (by omega) fun u u0 u1 _ => ?_
   have := u1 (by omega)
   dsimp only
   rw [w64 (by omega) (by omega)]
   refine EvP.bind (l91Expr_ev' b hb _ _ (by omega) (by omega) (by omega) (by omega)) fun r hr => EvP.ret ?_
   unfold DL
   simp only [cSs, cS]
   omega
  have j1 : ∀ (q : Int) (x : Bool), p ≤ q → q ≤ p + 1 → EvP (fun k => spec_l92Stmt.j1 k x1 a2 x b q) (DL p (pB (d + 1)) (cB (d + 1))) := by
   intro q x hq hq2
   refine EvP.step (fun k => spec_l92Stmt.j1.eq_2 (k := k) ..) (EvP.ite (fun h => ?_) (fun h => pr q hq hq2))
   refine EvP.bind (l92Loop_of b hb x1 a2 (pB d) (cB d) (by omega) (by omega) (200000000000 - (d : Int) * 20000000) (by omega) (stmt false) q (by omega) (by omega)) fun r hr => EvP.ret ?_
   unfold DL at hr ⊢
   dsimp only
   omega
  have j0 : ∀ (q x10 : Int) (x : Bool), p ≤ q → q ≤ p + 1 → EvP (fun k => spec_l92Stmt.j0 k x1 a2 x3 x10 x b q) (DL p (pB (d + 1)) (cB (d + 1))) := by
   intro q x10 x hq hq2
   refine EvP.step (fun k => spec_l92Stmt.j0.eq_2 (k := k) ..) (EvP.ite (fun h => ?_) (fun h => EvP.ite (fun h => EvP.ite (fun h => ?_) (fun h => pr q hq hq2)) (fun h => EvP.ite (fun h => EvP.ite (fun h => j1 q _ hq hq2) (fun h => j1 q _ hq hq2)) (fun h => EvP.ite (fun h => j2 q _ _ hq hq2) (fun h => EvP.ite (fun h => j2 q _ _ hq hq2) (fun h => j2 q _ _ hq hq2))))))
   ·refine EvP.bind (l92Set_ev b hb q (by omega) (by omega)) fun r hr => EvP.ret ?_
    unfold DS at hr
    unfold DL
    simp only [cSs, cS]
    omega
   ·refine EvP.bind (l92If_of b hb x1 a2 x3 (pB d) (cB d) (by omega) (by omega) (200000000000 - (d : Int) * 20000000) (by omega) (stmt x3) q (by omega) (by omega)) fun r hr => EvP.ret ?_
    unfold DS at hr
    unfold DL
    simp only [cSs, cS]
    omega
  refine EvP.step (fun k => spec_l92Stmt.f.eq_2 (k := k) ..) (pick_then hb h0 (by omega) fun u u0 u1 _ => ?_)
  dsimp only
  exact EvP.ite (fun h => j0 _ _ _ (by omega) (by omega)) (fun h => j0 _ _ _ (by omega) (by omega))
theorem l92Block_ev (b : List Int) (hb : Bytes b) (d : Nat) (hd : d ≤ 3) (a2 x1 : Int) (ha : a2 = d) (x4 : Bool) (n : Int) (m : Nat) (hn0 : 0 ≤ n) (hn : n ≤ m) (hm : m ≤ 6) (p : Int) (h0 : 0 ≤ p) (h1 : p ≤ 190000000000) :
  EvP (fun k => spec_l92Block.f k b p x1 a2 n x4) (DL p (m * pB d) (m * cB d)) := by
 have hc := cB_le hd
 have hp := pB_le hd
 have e1 : m * pB d ≤ 6 * pB d := Nat.mul_le_mul_right _ hm
 have e2 : m * cB d ≤ 6 * cB d := Nat.mul_le_mul_right _ hm
 exact l92Block_of b x1 a2 x4 (pB d) (cB d) (200000000000 - (d : Int) * 20000000) (fun p h0 h1 => l92Stmt_ev b hb d a2 x1 x4 p hd ha h0 (by omega)) n m hn0 hn (by omega) (by omega) p h0 (by omega)
theorem l92Stmts_l0 (b : List Int) (p : Int) : ∀ (m : Nat) (l : List (S35)), l.length = m → cSs l ≤ 1000000 → EvP (fun k => spec_l92Stmts.l0 k l b p) (fun r => r.2 = p ∧ cSs r.1 ≤ 16) := by
 intro m
 induction m with
 | zero =>
  intro l hm hl
  obtain rfl := List.eq_nil_of_length_eq_zero hm
  refine EvP.step (fun k => spec_l92Stmts.l0.eq_2 (k := k) ..) (EvP.bindEq (spec_l11Count_ev _ _ hl (by omega)) (EvP.no ?_ (EvP.ret ⟨rfl, ?_⟩)))
  ·rw [cSs_nil]
   omega
  ·rw [cSs_nil]
   omega
 | succ m ih =>
  intro l hm hl
  refine EvP.step (fun k => spec_l92Stmts.l0.eq_2 (k := k) ..) (EvP.bindEq (spec_l11Count_ev _ _ hl (by omega)) (EvP.ite (fun h => ?_) (fun h => EvP.ret ⟨rfl, by dsimp only; omega⟩)))
  have hlen := cSs_length l
  rw [w64 (by omega) (by omega), show (((l.length : Int) - 1)).toNat = m by omega]
  have ht := cSs_take_drop l m
  exact EvP.yes (by omega) (EvP.yes (by omega) (ih _ (by rw [List.length_take]; omega) (by omega)))
theorem l92Stmts_ev (b : List Int) (hb : Bytes b) (p a1 : Int) (h0 : 0 ≤ p) (h1 : p ≤ 180000000000) : EvP (fun k => spec_l92Stmts.f k b p a1) (DL p 3000000 16) := by
 unfold spec_l92Stmts.f
 refine pick_then hb h0 (by omega) fun v v0 v1 _ => ?_
 have := v1 (by omega)
 dsimp only
 rw [w64 (by omega) (by omega)]
 have hc := cB_le (show 3 ≤ 3 by omega)
 have hp := pB_le (show 3 ≤ 3 by omega)
 refine EvP.bind (l92Block_ev b hb 3 (by omega) 3 a1 rfl true (1 + v) 6 (by omega) (by omega) (by omega) _ (by omega) (by omega)) fun r hr => ?_
 obtain ⟨r0, r1, r2⟩ := hr
 refine (l92Stmts_l0 b r.2 _ r.1 rfl (by omega)).mono fun s hs => ?_
 unfold DL
 omega
theorem l92Endless_ev (b : List Int) (hb : Bytes b) (p : Int) (h0 : 0 ≤ p) (h1 : p ≤ 180000000000) : EvP (fun k => spec_l92Endless.f k b p) (DS p 100000 20) := by
 unfold spec_l92Endless.f
 refine EvP.bind0 rfl (pick_then hb h0 (by omega) fun v v0 v1 _ => ?_)
 have := v1 (by omega)
 dsimp only
 refine EvP.bind (l92Block_ev b hb 1 (by omega) 1 0 rfl false v 2 (by omega) (by omega) (by omega) _ (by omega) (by omega)) fun r hr => EvP.ret ?_
 obtain ⟨r0, r1, r2⟩ := hr
 have e1 : cB 1 = 7 := rfl
 have e2 : pB 1 = 25000 := rfl
 rw [e2] at r1
 rw [e1] at r2
 unfold DS
 simp only [cSs_nil]
 omega
theorem l92If_ev (b : List Int) (hb : Bytes b) (p x1 : Int) (x4 : Bool) (h0 : 0 ≤ p) (h1 : p ≤ 180000000000) : EvP (fun k => spec_l92If.f k b p x1 1 x4) (DS p 30000 4) := by
 have e1 : cB 0 = 1 := rfl
 have e2 : pB 0 = 5000 := rfl
 refine (l92If_of b hb x1 1 x4 (pB 0) (cB 0) (by omega) (by omega) 200000000000 (by omega) (fun p h0 h1 => l92Stmt_ev b hb 0 _ x1 x4 p (by omega) (by rw [w64 (by omega) (by omega)]; rfl) h0 (by omega)) p h0 (by omega)).mono fun r hr => ?_
 unfold DS at hr ⊢
 omega
theorem l92Some_ev (b : List Int) (hb : Bytes b) (p : Int) (h0 : 0 ≤ p) (h1 : p ≤ 100000000000) : EvP (fun k => spec_l92Some.f k b p) (DL p 5000000 60) := by
 unfold spec_l92Some.f
 refine EvP.bind (l92Stmts_ev b hb p 3 h0 (by omega)) fun r hr => ?_
 obtain ⟨r0, r1, r2⟩ := hr
 have hlen := cSs_length r.1
 refine pick_then hb (by omega) (by omega) fun v v0 v1 _ => ?_
 dsimp only
 refine EvP.ite (fun h => ?_) (fun h => EvP.ite (fun h => ?_) (fun h => EvP.ite (fun h => ?_) (fun h => EvP.ite (fun h => ?_) (fun h => EvP.ite (fun h => ?_) (fun h => EvP.ite (fun h => ?_) (fun h => EvP.ret ?_))))))
 ·refine EvP.bind (l92Endless_ev b hb _ (by omega) (by omega)) fun s hs => EvP.yes (by omega) (EvP.ret ?_)
  unfold DS at hs
  unfold DL
  simp only [cSs_append, cSs, cS]
  omega
 ·refine EvP.bind0 rfl (pick_then hb (by omega) (by omega) fun u u0 u1 _ => ?_)
  have := u1 (by omega)
  refine EvP.yes u0 (EvP.yes (by simp; omega) (EvP.yes (by omega) (EvP.ret ?_)))
  unfold DL
  simp only [cSs_append, cSs, cS]
  omega
 ·refine EvP.bind (l91Leaf_ev b hb _ (by omega) (by omega)) fun s hs => EvP.yes (by omega) (EvP.ret ?_)
  unfold DL
  simp only [cSs_append, cSs, cS]
  omega
 ·refine EvP.yes (by omega) (EvP.ret ?_)
  unfold DL
  simp only [cSs_append, cSs, cS]
  omega
 ·refine EvP.bind (l92If_ev b hb _ 1 false (by omega) (by omega)) fun s hs => EvP.yes (by omega) (EvP.ret ?_)
  unfold DS at hs
  unfold DL
  simp only [cSs_append, cSs, cS]
  omega
 ·refine EvP.bind (l91Leaf_ev b hb _ (by omega) (by omega)) fun s hs => EvP.yes (by omega) (EvP.ret ?_)
  unfold DL
  simp only [cSs_append, cSs, cS]
  omega
 ·unfold DL
  dsimp only
  omega
end Go.Proofs.Ytodhbeeibagiaaa.PA

namespace Go.Proofs.Ytodhbeeibagiaaa.PA
set_option linter.unusedSimpArgs false
open Go.RowKit Go.Proofs.YtodhbeeibagiaaaW.PrintWords Go.Proofs.YtodhbeeibagiaaaW.PrintMore Go.Proofs.Ytodhbeeibagiaaa.Core
theorem cT_length (l : List ST) : l.length ≤ cT l := by
 have h := cSs_length (embTs l)
 rw [embTs_length] at h
 exact h
theorem cT_split (l : List ST) (j : Nat) : cT (l.take j) + cT (l.drop j) = cT l := by
 rw [← cT_append, List.take_append_drop]
theorem rdT_nat (l : List ST) (j : Nat) (h : j < l.length) : rd_T35 (embTs l) (j : Int) = embT l[j] := by
 rw [rdS_nat _ j (by rw [embTs_length]; exact h), embTs_get l j h]
theorem pick_eq (kd va bx : Int) (y : X) (hy : y.ok) (b e : List ST) :
  pickT kd va bx y b e = if kd = 2 ∧ (emb y).f0 = 0 ∧ (emb y).f1 ≠ 0 then b else if kd = 2 ∧ (emb y).f0 = 0 then e else if kd = 3 ∧ (emb y).f0 = 0 ∧ (emb y).f1 = 0 then [] else [⟨kd, va, bx, y, b, e⟩] := by
 unfold pickT
 cases y with
 | num n =>
  by_cases h2 : kd = 2
  ·subst h2
   by_cases hn : n = 0 <;> simp [emb, hn]
  ·by_cases h3 : kd = 3
   ·subst h3
    by_cases hn : n = 0 <;> simp [emb, hn]
   ·simp [emb, h2, h3]
 | var v => by_cases h2 : kd = 2 <;> by_cases h3 : kd = 3 <;> simp [emb, h2, h3]
 | bin o p q =>
  have ho : o ≠ 0 := by have := hy.1; omega
  by_cases h2 : kd = 2 <;> by_cases h3 : kd = 3 <;> simp [emb, h2, h3, ho]
theorem impl_stmtsFold_ev : ∀ (c : Nat) (l : List ST), (∀ t ∈ l, AX t) → cT l ≤ c → c ≤ 1000000000 → EvP (fun k => impl_stmtsFold.f k (embTs l)) (· = embTs (foldTs l)) := by
  intro c
  induction c with
  | zero =>
    intro l _ hl hc
    have := cT_length l
    obtain rfl := List.eq_nil_of_length_eq_zero (show l.length = 0 by omega)
    refine EvP.step (fun k => impl_stmtsFold.f.eq_2 (k := k) ..) (EvP.step (fun k => impl_stmtsFold.l0.eq_2 (k := k) ..) (EvP.no (by rw [embTs]; simp) (EvP.ret ?_)))
    rw [foldTs, embTs]
  | succ c ih =>
    intro l ha hl hc
    have hlen := embTs_length l
    have loop : ∀ (r j : Nat) (acc : List ST), j + r = l.length → acc.length + cT (l.drop j) ≤ 2000000000 → EvP (fun k => impl_stmtsFold.l0 k (embTs acc) (embTs l) ((embTs l).length : Int) (j : Int)) (· = embTs (acc ++ foldTs (l.drop j))) := by
      intro r
      induction r with
      | zero =>
        intro j acc hj h1
        refine EvP.step (fun k => impl_stmtsFold.l0.eq_2 (k := k) ..) (EvP.no (by omega) (EvP.ret ?_))
        rw [List.drop_eq_nil_of_le (by omega), foldTs, List.append_nil]
      | succ r ih2 =>
        intro j acc hj h1
        have hlt : j < l.length := by omega
        have hl2 := cT_length l
        have hsp := cT_split l j
        have hd := List.drop_eq_getElem_cons hlt
        have hcd : cT (l.drop j) = cT l[j].b + cT l[j].e + 1 + cT (l.drop (j + 1)) := by rw [hd, cT_cons]
        have hrd := rdT_nat l j hlt
        have hat := ha _ (List.getElem_mem hlt)
        have hft := cT_foldT l[j]
        rw [cT_one] at hft
        have hfl := cT_length (foldT l[j])
        have hb1 := cT_length (foldTs l[j].b)
        have hb2 := cT_foldTs l[j].b
        have he1 := cT_length (foldTs l[j].e)
        have he2 := cT_foldTs l[j].e
        generalize l[j] = t at *
        obtain ⟨hok, _, hab, hae⟩ : t.x.ok ∧ t.x.depth ≤ 5 ∧ (∀ y ∈ t.b, AX y) ∧ (∀ y ∈ t.e, AX y) := by
          cases hat with
          | mk _ a b c d => exact ⟨a, b, c, d⟩
        refine EvP.step (fun k => impl_stmtsFold.l0.eq_2 (k := k) ..) (EvP.yes (by omega) (EvP.yes (by omega) (EvP.yes (by omega) ?_)))
        rw [hrd, embT_f t]
        dsimp only
        refine EvP.bindEq (ih _ hab (by omega) (by omega)) (EvP.bindEq (ih _ hae (by omega) (by omega)) (EvP.bindEq (impl_exprFold_ev _ hok) ?_))
        have hyo := X.fold_ok _ hok
        have hf : foldT t = _ := (foldT_f t).trans (pick_eq _ _ _ _ hyo _ _)
        have next : ∀ p : List ST, foldT t = p → EvP (fun k => impl_stmtsFold.l0 k (embTs acc ++ embTs p) (embTs l) ((embTs l).length : Int) ((j : Int) + 1)) (· = embTs (acc ++ foldTs (l.drop j))) := by
          rintro p rfl
          rw [← embTs_append]
          refine (ih2 (j + 1) (acc ++ foldT t) (by omega) (by rw [List.length_append]; omega)).mono fun b hb => ?_
          rw [hb, hd, foldTs, List.append_assoc]
        have la := embTs_length acc
        have lb := embTs_length (foldTs t.b)
        have le := embTs_length (foldTs t.e)
        dsimp only [tri]
        have one : foldT t = [⟨t.kd, t.va, t.bx, t.x.fold, foldTs t.b, foldTs t.e⟩] → EvP (fun k => impl_stmtsFold.l0 k (embTs acc ++ [(⟨t.kd, t.va, t.bx, ⟨(emb t.x.fold).f0, (emb t.x.fold).f1, (emb t.x.fold).f2⟩, embTs (foldTs t.b), embTs (foldTs t.e)⟩ : S35)]) (embTs l) ((embTs l).length : Int) ((j : Int) + 1)) (· = embTs (acc ++ foldTs (l.drop j))) := by
          intro h
          have h2 := next _ h
          rw [embTs, embTs, embT] at h2
          rw [etaE]
          exact h2
        clear ih ih2
        by_cases h2 : t.kd = 2
        · refine EvP.yes h2 ?_
          by_cases ho : (emb t.x.fold).f0 = 0
          · refine EvP.yes ho (EvP.step (fun k => impl_stmtsFold.j1.eq_2 (k := k) ..) ?_)
            by_cases hn : (emb t.x.fold).f1 = 0
            · refine EvP.no (by simp [hn]) (EvP.yes h2 (EvP.step (fun k => impl_stmtsFold.j2.eq_2 (k := k) ..) (EvP.yes (by simp [ho]) (EvP.yes (by omega) ?_))))
              rw [w64 (n := (j : Int) + 1) (by omega) (by omega)]
              exact next _ (by rw [hf, if_neg (fun e => e.2.2 hn), if_pos ⟨h2, ho⟩])
            · refine EvP.yes (by simp [hn]) (EvP.yes (by omega) ?_)
              rw [w64 (n := (j : Int) + 1) (by omega) (by omega)]
              exact next _ (by rw [hf, if_pos ⟨h2, ho, hn⟩])
          · refine EvP.no ho (EvP.step (fun k => impl_stmtsFold.j1.eq_2 (k := k) ..) (EvP.no (by simp) (EvP.yes h2 (EvP.step (fun k => impl_stmtsFold.j2.eq_2 (k := k) ..) (EvP.no (by simp [ho]) (EvP.no (by omega) (EvP.yes (by omega) ?_)))))))
            rw [w64 (n := (j : Int) + 1) (by omega) (by omega)]
            exact one (by rw [hf, if_neg (fun e => ho e.2.1), if_neg (fun e => ho e.2), if_neg (fun e => ho e.2.1)])
        · refine EvP.no h2 (EvP.step (fun k => impl_stmtsFold.j1.eq_2 (k := k) ..) (EvP.no (by simp) (EvP.no h2 (EvP.step (fun k => impl_stmtsFold.j2.eq_2 (k := k) ..) (EvP.no (by simp) ?_)))))
          rw [w64 (n := (j : Int) + 1) (by omega) (by omega)]
          by_cases h3 : t.kd = 3
          · refine EvP.yes h3 ?_
            by_cases ho : (emb t.x.fold).f0 = 0
            · refine EvP.yes (by simp [ho]) ?_
              by_cases hn : (emb t.x.fold).f1 = 0
              · refine EvP.yes hn ?_
                have h4 := next [] (by rw [hf, if_neg (fun e => h2 e.1), if_neg (fun e => h2 e.1), if_pos ⟨h3, ho, hn⟩])
                rw [embTs, List.append_nil] at h4
                exact h4
              · exact EvP.no hn (EvP.yes (by omega) (one (by rw [hf, if_neg (fun e => h2 e.1), if_neg (fun e => h2 e.1), if_neg (fun e => hn e.2.2)])))
            · exact EvP.no (by simp [ho]) (EvP.yes (by omega) (one (by rw [hf, if_neg (fun e => h2 e.1), if_neg (fun e => h2 e.1), if_neg (fun e => ho e.2.1)])))
          · exact EvP.no h3 (EvP.yes (by omega) (one (by rw [hf, if_neg (fun e => h2 e.1), if_neg (fun e => h2 e.1), if_neg (fun e => h3 e.1)])))
    refine EvP.step (fun k => impl_stmtsFold.f.eq_2 (k := k) ..) ?_
    have h := loop l.length 0 [] (by omega) (by rw [List.drop_zero]; simp; omega)
    rw [List.drop_zero, List.nil_append, embTs] at h
    exact h
theorem spec_l11FoldOne_of (t : ST) (hok : t.x.ok) (hb : EvP (fun k => spec_l11FoldAll.f k (embTs t.b)) (· = embTs (foldTs t.b))) (he : EvP (fun k => spec_l11FoldAll.f k (embTs t.e)) (· = embTs (foldTs t.e))) :
    EvP (fun k => spec_l11FoldOne.f k (embT t)) (· = embTs (foldT t)) := by
  refine EvP.step (fun k => spec_l11FoldOne.f.eq_2 (k := k) ..) ?_
  rw [embT_f t]
  dsimp only
  refine EvP.bindEq (spec_l4Fold_ev _ hok) (EvP.bindEq hb (EvP.bindEq he (EvP.ret ?_)))
  have hyo := X.fold_ok _ hok
  rw [foldT_f, pick_eq _ _ _ _ hyo]
  dsimp only [tri, pickF]
  by_cases h2 : t.kd = 2
  · by_cases ho : (emb t.x.fold).f0 = 0
    · by_cases hn : (emb t.x.fold).f1 = 0 <;> simp [h2, ho, hn]
    · simp [h2, ho, embTs, embT, etaE]
  · by_cases h3 : t.kd = 3
    · by_cases ho : (emb t.x.fold).f0 = 0
      · by_cases hn : (emb t.x.fold).f1 = 0
        · simp [h3, ho, hn, embTs]
        · simp [h3, ho, hn, embTs, embT]
          rw [← ho, etaE]
      · simp [h3, ho, embTs, embT, etaE]
    · simp [h2, h3, embTs, embT, etaE]
theorem spec_l11FoldAll_ev : ∀ (c : Nat) (l : List ST), (∀ t ∈ l, AX t) → cT l ≤ c → c ≤ 1000000000 → EvP (fun k => spec_l11FoldAll.f k (embTs l)) (· = embTs (foldTs l)) := by
  intro c
  induction c with
  | zero =>
    intro l _ hl hc
    have := cT_length l
    obtain rfl := List.eq_nil_of_length_eq_zero (show l.length = 0 by omega)
    refine EvP.step (fun k => spec_l11FoldAll.f.eq_2 (k := k) ..) (EvP.step (fun k => spec_l11FoldAll.l0.eq_2 (k := k) ..) (EvP.no (by rw [embTs]; simp) (EvP.ret ?_)))
    rw [foldTs, embTs]
  | succ c ih =>
    intro l ha hl hc
    have hlen := embTs_length l
    have loop : ∀ (r j : Nat) (acc : List ST), j + r = l.length → acc.length + cT (l.drop j) ≤ 2000000000 → EvP (fun k => spec_l11FoldAll.l0 k (embTs l) (embTs acc) (j : Int)) (· = embTs (acc ++ foldTs (l.drop j))) := by
      intro r
      induction r with
      | zero =>
        intro j acc hj h1
        refine EvP.step (fun k => spec_l11FoldAll.l0.eq_2 (k := k) ..) (EvP.no (by omega) (EvP.ret ?_))
        rw [List.drop_eq_nil_of_le (by omega), foldTs, List.append_nil]
      | succ r ih2 =>
        intro j acc hj h1
        have hlt : j < l.length := by omega
        have hl2 := cT_length l
        have hsp := cT_split l j
        have hd := List.drop_eq_getElem_cons hlt
        have hcd : cT (l.drop j) = cT l[j].b + cT l[j].e + 1 + cT (l.drop (j + 1)) := by rw [hd, cT_cons]
        have hrd := rdT_nat l j hlt
        have hat := ha _ (List.getElem_mem hlt)
        have hft := cT_foldT l[j]
        rw [cT_one] at hft
        have hfl := cT_length (foldT l[j])
        generalize l[j] = t at *
        obtain ⟨hok, _, hab, hae⟩ : t.x.ok ∧ t.x.depth ≤ 5 ∧ (∀ y ∈ t.b, AX y) ∧ (∀ y ∈ t.e, AX y) := by
          cases hat with
          | mk _ a b c d => exact ⟨a, b, c, d⟩
        have la := embTs_length acc
        have lf := embTs_length (foldT t)
        refine EvP.step (fun k => spec_l11FoldAll.l0.eq_2 (k := k) ..) (EvP.yes (by omega) (EvP.yes (by omega) ?_))
        rw [hrd]
        refine EvP.bindEq (spec_l11FoldOne_of t hok (ih _ hab (by omega) (by omega)) (ih _ hae (by omega) (by omega))) (EvP.yes (by omega) ?_)
        rw [w64 (n := (j : Int) + 1) (by omega) (by omega), ← embTs_append]
        refine (ih2 (j + 1) (acc ++ foldT t) (by omega) (by rw [List.length_append]; omega)).mono fun b hb => ?_
        rw [hb, hd, foldTs, List.append_assoc]
    refine EvP.step (fun k => spec_l11FoldAll.f.eq_2 (k := k) ..) ?_
    have h := loop l.length 0 [] (by omega) (by rw [List.drop_zero]; simp; omega)
    rw [List.drop_zero, List.nil_append, embTs] at h
    exact h
theorem impl_StmtsFold_no {l : List S35} (hl : cSs l ≤ 1000000000) (h : okT 3 l = false) : EvP (fun k => impl_StmtsFold.f k l) (· = ([], false)) := by
  unfold impl_StmtsFold.f
  exact EvP.bindEq (impl_StmtsValid_ev l hl) (EvP.no (by rw [h]; simp) (EvP.ret rfl))
theorem spec_StmtsFold_no {l : List S35} (hl : cSs l ≤ 1000000000) (h : okT 3 l = false) : EvP (fun k => spec_StmtsFold.f k l) (· = ([], false)) := by
  unfold spec_StmtsFold.f
  exact EvP.bindEq (spec_StmtsValid_ev l hl) (EvP.no (by rw [h]; simp) (EvP.ret rfl))
theorem impl_StmtsFold_yes (m : List ST) (ha : ∀ t ∈ m, AX t) (h : okT 3 (embTs m) = true) : EvP (fun k => impl_StmtsFold.f k (embTs m)) (· = (embTs (foldTs m), true)) := by
  have hc := (okT_iff.1 h).2
  unfold impl_StmtsFold.f
  exact EvP.bindEq (impl_StmtsValid_ev _ (by omega)) (EvP.yes h (EvP.bindEq (impl_stmtsFold_ev 16 m ha hc (by omega)) (EvP.ret rfl)))
theorem spec_StmtsFold_yes (m : List ST) (ha : ∀ t ∈ m, AX t) (h : okT 3 (embTs m) = true) : EvP (fun k => spec_StmtsFold.f k (embTs m)) (· = (embTs (foldTs m), true)) := by
  have hc := (okT_iff.1 h).2
  unfold spec_StmtsFold.f
  exact EvP.bindEq (spec_StmtsValid_ev _ (by omega)) (EvP.yes h (EvP.bindEq (spec_l11FoldAll_ev 16 m ha hc (by omega)) (EvP.ret rfl)))
theorem sameStmts_ev : ∀ (c : Nat) (l : List ST), cT l ≤ c → c ≤ 1000000000 → EvP (fun k => laws_sameStmts.f k (embTs l) (embTs l)) (· = true) := by
  intro c
  induction c with
  | zero =>
    intro l hl hc
    have := cT_length l
    obtain rfl := List.eq_nil_of_length_eq_zero (show l.length = 0 by omega)
    exact EvP.step (fun k => laws_sameStmts.f.eq_2 (k := k) ..) (EvP.yes rfl (EvP.step (fun k => laws_sameStmts.l0.eq_2 (k := k) ..) (EvP.no (by rw [embTs]; simp) (EvP.ret rfl))))
  | succ c ih =>
    intro l hl hc
    have hlen := embTs_length l
    have loop : ∀ (r j : Nat), j + r = l.length → EvP (fun k => laws_sameStmts.l0 k (embTs l) (embTs l) (j : Int)) (· = true) := by
      intro r
      induction r with
      | zero =>
        intro j hj
        exact EvP.step (fun k => laws_sameStmts.l0.eq_2 (k := k) ..) (EvP.no (by omega) (EvP.ret rfl))
      | succ r ih2 =>
        intro j hj
        have hlt : j < l.length := by omega
        have hl2 := cT_length l
        have hsp := cT_split l j
        have hcd : cT (l.drop j) = cT l[j].b + cT l[j].e + 1 + cT (l.drop (j + 1)) := by rw [List.drop_eq_getElem_cons hlt, cT_cons]
        have hrd := rdT_nat l j hlt
        generalize l[j] = t at *
        refine EvP.step (fun k => laws_sameStmts.l0.eq_2 (k := k) ..) (EvP.yes (by omega) (EvP.yes (by omega) (EvP.yes (by omega) ?_)))
        rw [hrd, embT_f t]
        dsimp only
        refine EvP.yes rfl (EvP.yes rfl (EvP.yes rfl (EvP.bindEq (sameExpr_ev _) ?_)))
        refine EvP.step (fun k => laws_sameStmts.j1.eq_2 (k := k) ..) (EvP.no (by simp) ?_)
        refine EvP.bindEq (ih _ (by omega) (by omega)) (EvP.yes rfl (EvP.bindEq (ih _ (by omega) (by omega)) (EvP.yes rfl ?_)))
        rw [w64 (n := (j : Int) + 1) (by omega) (by omega)]
        exact ih2 (j + 1) (by omega)
    exact EvP.step (fun k => laws_sameStmts.f.eq_2 (k := k) ..) (EvP.yes rfl (loop l.length 0 (by omega)))
theorem sameStmts_0 : EvP (fun k => laws_sameStmts.f k [] []) (· = true) := by
  have h := sameStmts_ev 0 [] (by rw [cT_nil]; omega) (by omega)
  rw [embTs] at h
  exact h
theorem DrawStmtsFold_ev (l : List Int) (hl : l.length ≤ 140737488351232) (hw : ∀ x ∈ l, (Lit.int .u8 x).wf = true) : EvP (fun k => spec_DrawStmtsFold.f k l) (fun r => cSs r ≤ 1000) := by
 obtain ⟨b, hb0, hb⟩ := open_bytes l hl hw
 unfold spec_DrawStmtsFold.f
 refine EvP.bind0 hb0 (EvP.bind (l92Some_ev b hb _ (by dsimp only; omega) (by dsimp only; omega)) fun r hr => ?_)
 obtain ⟨r0, r1, r2⟩ := hr
 dsimp only at r0 r1 ⊢
 refine pick_then hb (by omega) (by omega) fun v v0 v1 _ => ?_
 dsimp only
 refine EvP.ite (fun h => ?_) (fun h => EvP.ret (by omega))
 refine EvP.bind (l92If_ev b hb _ 1 false (by omega) (by omega)) fun i hi => ?_
 obtain ⟨i1, i2, i3, i4, i5, i6, i7, i8, p3⟩ := i
 unfold DS at hi
 dsimp only at hi ⊢
 refine EvP.bind (l91Op_ev b hb _ (by omega) (by omega)) fun q hq => ?_
 obtain ⟨q1, p4⟩ := q
 dsimp only at hq ⊢
 refine pick_then hb (by omega) (by omega) fun a a0 a1 _ => ?_
 dsimp only
 refine pick_then hb (by omega) (by omega) fun b' b0 b1 _ => EvP.ret ?_
 rw [cSs_one, cS_f]
 dsimp only
 omega
theorem folds (l : List S35) : (okT 3 l = false) ∨ ∃ m : List ST, (∀ t ∈ m, AX t) ∧ embTs m = l ∧ okT 3 (embTs m) = true := by
 cases h : okT 3 l with
 | false => exact .inl rfl
 | true =>
  obtain ⟨m, hm, ha⟩ := of_okL 3 3 l (okT_iff.1 h).1
  exact .inr ⟨m, ha, hm, by rw [hm]; exact h⟩
inductive NO : ST → Prop
 | mk (t : ST) (h1 : ¬ (t.kd = 2 ∧ t.x.isNum = true)) (h2 : ¬ (t.kd = 3 ∧ t.x = .num 0)) (hb : ∀ y ∈ t.b, NO y) (he : ∀ y ∈ t.e, NO y) : NO t
theorem no_foldTs_of (l : List ST) (h : ∀ y ∈ l, ∀ z ∈ foldT y, NO z) : ∀ z ∈ foldTs l, NO z := by
 induction l with
 | nil => rw [foldTs]; simp
 | cons y ys ih =>
  intro z hz
  rw [foldTs, List.mem_append] at hz
  rcases hz with hz | hz
  ·exact h y List.mem_cons_self z hz
  ·exact ih (fun w hw => h w (List.mem_cons_of_mem _ hw)) z hz
theorem no_foldT (t : ST) : ∀ z ∈ foldT t, NO z := by
 refine ind_ST (P := fun t => ∀ z ∈ foldT t, NO z) (fun t i1 i2 => ?_) t
 have g1 := no_foldTs_of t.b i1
 have g2 := no_foldTs_of t.e i2
 rw [foldT_f]
 rcases pickT_cases t.kd t.va t.bx t.x.fold (foldTs t.b) (foldTs t.e) with ⟨h, _⟩ | ⟨h, _⟩ | h | ⟨h, n1, n2⟩
 ·rw [h]; exact g1
 ·rw [h]; exact g2
 ·rw [h]; simp
 ·rw [h]
  intro z hz
  rw [List.mem_singleton] at hz
  subst hz
  exact .mk _ n1 n2 g1 g2
theorem no_foldTs (l : List ST) : ∀ z ∈ foldTs l, NO z := no_foldTs_of l (fun y _ => no_foldT y)
theorem openIf_ev : ∀ (c : Nat) (l : List ST), (∀ t ∈ l, AX t) → (∀ t ∈ l, NO t) → cT l ≤ c → c ≤ 1000000000 → EvP (fun k => laws_openIf.f k (embTs l)) (· = false) := by
  intro c
  induction c with
  | zero =>
    intro l _ _ hl hc
    have := cT_length l
    obtain rfl := List.eq_nil_of_length_eq_zero (show l.length = 0 by omega)
    exact EvP.step (fun k => laws_openIf.f.eq_2 (k := k) ..) (EvP.step (fun k => laws_openIf.l0.eq_2 (k := k) ..) (EvP.no (by rw [embTs]; simp) (EvP.ret rfl)))
  | succ c ih =>
    intro l ha hno hl hc
    have hlen := embTs_length l
    have loop : ∀ (r j : Nat), j + r = l.length → EvP (fun k => laws_openIf.l0 k (embTs l) (j : Int)) (· = false) := by
      intro r
      induction r with
      | zero =>
        intro j hj
        exact EvP.step (fun k => laws_openIf.l0.eq_2 (k := k) ..) (EvP.no (by omega) (EvP.ret rfl))
      | succ r ih2 =>
        intro j hj
        have hlt : j < l.length := by omega
        have hl2 := cT_length l
        have hsp := cT_split l j
        have hcd : cT (l.drop j) = cT l[j].b + cT l[j].e + 1 + cT (l.drop (j + 1)) := by rw [List.drop_eq_getElem_cons hlt, cT_cons]
        have hrd := rdT_nat l j hlt
        have hat := ha _ (List.getElem_mem hlt)
        have hnt := hno _ (List.getElem_mem hlt)
        generalize l[j] = t at *
        obtain ⟨hok, hab, hae⟩ : t.x.ok ∧ (∀ y ∈ t.b, AX y) ∧ (∀ y ∈ t.e, AX y) := by
          cases hat with
          | mk _ a b c d => exact ⟨a, c, d⟩
        obtain ⟨n1, n2, hnb, hne⟩ : ¬ (t.kd = 2 ∧ t.x.isNum = true) ∧ ¬ (t.kd = 3 ∧ t.x = .num 0) ∧ (∀ y ∈ t.b, NO y) ∧ (∀ y ∈ t.e, NO y) := by
          cases hnt with
          | mk _ a b c d => exact ⟨a, b, c, d⟩
        have hop := emb_op hok
        have go : ∀ (x40 : Bool) (a b c d e : Int) (f : List S32), x40 = false → EvP (fun k => laws_openIf.j1 k (embTs l) (j : Int) x40 a b c d e f (embTs t.b) (embTs t.e)) (· = false) := by
          rintro _ a b c' d e f rfl
          refine EvP.step (fun k => laws_openIf.j1.eq_2 (k := k) ..) (EvP.no (by simp) ?_)
          refine EvP.bindEq (ih _ hab hnb (by omega) (by omega)) (EvP.no (by simp) (EvP.bindEq (ih _ hae hne (by omega) (by omega)) (EvP.no (by simp) ?_)))
          rw [w64 (n := (j : Int) + 1) (by omega) (by omega)]
          exact ih2 (j + 1) (by omega)
        refine EvP.step (fun k => laws_openIf.l0.eq_2 (k := k) ..) (EvP.yes (by omega) (EvP.yes (by omega) ?_))
        rw [hrd, embT_f t]
        dsimp only
        by_cases h2 : t.kd = 2
        · have ho : (emb t.x).f0 ≠ 0 := fun e => by
            obtain ⟨n, hn⟩ := hop.1 e
            exact n1 ⟨h2, by rw [hn]; rfl⟩
          exact EvP.yes h2 (EvP.no ho (EvP.no (by omega) (go _ _ _ _ _ _ _ rfl)))
        · refine EvP.no h2 (EvP.ite (fun h3 => EvP.ite (fun ho => ?_) (fun ho => go _ _ _ _ _ _ _ rfl)) (fun h3 => go _ _ _ _ _ _ _ rfl))
          obtain ⟨n, hn⟩ := hop.1 ho
          refine go _ _ _ _ _ _ _ ?_
          rw [hn]
          refine beq_eq_false_iff_ne.mpr fun e => n2 ⟨h3, ?_⟩
          rw [hn]
          exact congrArg X.num e
    exact EvP.step (fun k => laws_openIf.f.eq_2 (k := k) ..) (loop l.length 0 (by omega))
mutual
def kT : ST → Nat
 | ⟨kd, _, _, _, b, e⟩ => (if kd = 3 then 1 else 0) + kTs b + kTs e
def kTs : List ST → Nat
 | [] => 0
 | s :: ss => kT s + kTs ss
end
theorem kT_f (t : ST) : kT t = (if t.kd = 3 then 1 else 0) + kTs t.b + kTs t.e := by
 cases t
 rw [kT]
 rfl
theorem kTs_append : ∀ l m : List ST, kTs (l ++ m) = kTs l + kTs m
 | [], m => by rw [kTs, List.nil_append, Nat.zero_add]
 | x :: xs, m => by rw [List.cons_append, kTs, kTs, kTs_append xs m, Nat.add_assoc]
theorem kTs_le_of (l : List ST) (h : ∀ y ∈ l, kT y ≤ cT [y]) : kTs l ≤ cT l := by
 induction l with
 | nil => rw [kTs]; omega
 | cons y ys ih =>
  have h1 := h y List.mem_cons_self
  have h2 := ih (fun z hz => h z (List.mem_cons_of_mem _ hz))
  rw [cT_one] at h1
  rw [kTs, cT_cons]
  omega
theorem kT_le (t : ST) : kT t ≤ cT [t] := by
 refine ind_ST (P := fun t => kT t ≤ cT [t]) (fun t i1 i2 => ?_) t
 have h1 := kTs_le_of t.b i1
 have h2 := kTs_le_of t.e i2
 rw [kT_f, cT_one]
 split <;> omega
theorem kTs_le (l : List ST) : kTs l ≤ cT l := kTs_le_of l (fun y _ => kT_le y)
theorem kTs_fold_of (l : List ST) (h : ∀ y ∈ l, kTs (foldT y) ≤ kT y) : kTs (foldTs l) ≤ kTs l := by
 induction l with
 | nil => rw [foldTs]; omega
 | cons y ys ih =>
  have h1 := h y List.mem_cons_self
  have h2 := ih (fun z hz => h z (List.mem_cons_of_mem _ hz))
  rw [foldTs, kTs_append, kTs]
  omega
theorem kT_fold (t : ST) : kTs (foldT t) ≤ kT t := by
 refine ind_ST (P := fun t => kTs (foldT t) ≤ kT t) (fun t i1 i2 => ?_) t
 have h1 := kTs_fold_of t.b i1
 have h2 := kTs_fold_of t.e i2
 rw [foldT_f, kT_f t]
 rcases pickT_cases t.kd t.va t.bx t.x.fold (foldTs t.b) (foldTs t.e) with ⟨h, _⟩ | ⟨h, _⟩ | h | ⟨h, _⟩
 ·rw [h]; split <;> omega
 ·rw [h]; split <;> omega
 ·rw [h, kTs]; split <;> omega
 ·rw [h, kTs, kTs, kT]
  split <;> omega
theorem kTs_fold (l : List ST) : kTs (foldTs l) ≤ kTs l := kTs_fold_of l (fun y _ => kT_fold y)
theorem countKind_ev : ∀ (c : Nat) (l : List ST), cT l ≤ c → c ≤ 1000000000 → EvP (fun k => laws_countKind.f k (embTs l) 3) (· = (kTs l : Int)) := by
  intro c
  induction c with
  | zero =>
    intro l hl hc
    have := cT_length l
    obtain rfl := List.eq_nil_of_length_eq_zero (show l.length = 0 by omega)
    exact EvP.step (fun k => laws_countKind.f.eq_2 (k := k) ..) (EvP.step (fun k => laws_countKind.l0.eq_2 (k := k) ..) (EvP.no (by rw [embTs]; simp) (EvP.ret (by rw [kTs]; rfl))))
  | succ c ih =>
    intro l hl hc
    have hlen := embTs_length l
    have loop : ∀ (r j : Nat) (a : Int), j + r = l.length → 0 ≤ a → a + cT (l.drop j) ≤ 2000000000 → EvP (fun k => laws_countKind.l0 k (embTs l) 3 a (j : Int)) (· = a + kTs (l.drop j)) := by
      intro r
      induction r with
      | zero =>
        intro j a hj h0 h1
        refine EvP.step (fun k => laws_countKind.l0.eq_2 (k := k) ..) (EvP.no (by omega) (EvP.ret ?_))
        rw [List.drop_eq_nil_of_le (by omega), kTs]
        omega
      | succ r ih2 =>
        intro j a hj h0 h1
        have hlt : j < l.length := by omega
        have hl2 := cT_length l
        have hsp := cT_split l j
        have hd := List.drop_eq_getElem_cons hlt
        have hcd : cT (l.drop j) = cT l[j].b + cT l[j].e + 1 + cT (l.drop (j + 1)) := by rw [hd, cT_cons]
        have hkd : kTs (l.drop j) = kT l[j] + kTs (l.drop (j + 1)) := by rw [hd, kTs]
        have hrd := rdT_nat l j hlt
        have hkb := kTs_le l[j].b
        have hke := kTs_le l[j].e
        have hkf := kT_f l[j]
        generalize l[j] = t at *
        refine EvP.step (fun k => laws_countKind.l0.eq_2 (k := k) ..) (EvP.yes (by omega) (EvP.yes (by omega) ?_))
        rw [hrd, embT_f t]
        dsimp only
        rw [w64 (n := (j : Int) + 1) (by omega) (by omega)]
        by_cases h3 : t.kd = 3
        · rw [if_pos h3] at hkf
          refine EvP.yes h3 (EvP.bindEq (ih _ (by omega) (by omega)) (EvP.bindEq (ih _ (by omega) (by omega)) ?_))
          rw [w64 (n := a + 1) (by omega) (by omega), w64 (n := a + 1 + (kTs t.b : Int)) (by omega) (by omega), w64 (n := a + 1 + (kTs t.b : Int) + (kTs t.e : Int)) (by omega) (by omega)]
          refine (ih2 (j + 1) _ (by omega) (by omega) (by omega)).mono fun b hb => ?_
          omega
        · rw [if_neg h3] at hkf
          refine EvP.no h3 (EvP.bindEq (ih _ (by omega) (by omega)) (EvP.bindEq (ih _ (by omega) (by omega)) ?_))
          rw [w64 (n := a + (kTs t.b : Int)) (by omega) (by omega), w64 (n := a + (kTs t.b : Int) + (kTs t.e : Int)) (by omega) (by omega)]
          refine (ih2 (j + 1) _ (by omega) (by omega) (by omega)).mono fun b hb => ?_
          omega
    refine EvP.step (fun k => laws_countKind.f.eq_2 (k := k) ..) ((loop l.length 0 0 (by omega) (by omega) (by rw [List.drop_zero]; omega)).mono fun b hb => ?_)
    rw [List.drop_zero] at hb
    omega
end Go.Proofs.Ytodhbeeibagiaaa.PA

namespace Go.Proofs.Ytodhbeeibagiaaa.Pure
open Go.RowKit Go.Proofs.Ytodhbeeibagiaaa.PA Go.Proofs.YtodhbeeibagiaaaW.PrintWords Go.Proofs.YtodhbeeibagiaaaW.PrintLast Go.Proofs.YtodhbeeibagiaaaW.PrintMore Go.Proofs.Ytodhbeeibagiaaa.Core
theorem FnStmtsFoldIf : laws_FnStmtsFoldIf.Pure := by
 intro l _ hl hw
 refine EvP.ends (r := true) ?_
 unfold laws_FnStmtsFoldIf.f
 refine EvP.ite (fun _ => EvP.ret rfl) (fun _ => ?_)
 refine EvP.bind (DrawStmtsFold_ev l (by omega) hw) fun r hr => ?_
 rcases folds r with h | ⟨m, ha, rfl, h⟩
 ·refine EvP.bindEq (impl_StmtsFold_no (by omega) h) (EvP.bindEq (spec_StmtsFold_no (by omega) h) (EvP.no (by simp) (EvP.bindEq sameStmts_0 (EvP.yes rfl ?_))))
  exact EvP.step (fun k => laws_FnStmtsFoldIf.j0.eq_2 (k := k) ..) (EvP.yes rfl (EvP.yes rfl (EvP.bindEq sameStmts_0 (EvP.ret rfl))))
 ·have hc : cT m ≤ 16 := (okT_iff.1 h).2
  have hcf := cT_foldTs m
  have hax := ax_foldTs m ha
  have hok := okT_fold 3 m ha h
  refine EvP.bindEq (impl_StmtsFold_yes m ha h) (EvP.bindEq (spec_StmtsFold_yes m ha h) (EvP.no (by simp) (EvP.bindEq (sameStmts_ev 16 _ (by omega) (by omega)) (EvP.yes rfl ?_))))
  refine EvP.step (fun k => laws_FnStmtsFoldIf.j0.eq_2 (k := k) ..) (EvP.no (by simp) ?_)
  have hk := kTs_fold m
  refine EvP.bindEq (openIf_ev 16 _ hax (no_foldTs m) (by omega) (by omega)) (EvP.no (by simp) ?_)
  refine EvP.bindEq (countKind_ev 16 _ (by omega) (by omega)) (EvP.bindEq (countKind_ev 16 _ (by omega) (by omega)) (EvP.ret ?_))
  exact decide_eq_true (by omega)
end Go.Proofs.Ytodhbeeibagiaaa.Pure


-- made by a program of this session (wip/myprint.py over the kit's print)
import Derived.Test.YtpcbfcaacilghaaV
import Derived.Test.YtpcbfcaacilghaaPAx0
import Derived.Test.YtpcbfcaacilghaaPAx1
import Derived.Test.YtpcbfcaacilghaaPAx5
namespace Go.Proofs.Ytpcbfcaacilghaa.PA
open Go.RowKit Go.Proofs.YtpcbfcaacilghaaW.PrintWords Go.Proofs.YtpcbfcaacilghaaW.PrintLast Go.Proofs.YtpcbfcaacilghaaW.PrintMore
attribute [local go_sem] max2_int min2_int max_two min_two max_three min_three max_four min_four   -- for this text's walks alone
set_option linter.unusedVariables false
set_option linter.unusedSimpArgs false

/-! ### impl_blockValid: function 52 -/
theorem impl_blockValid.mono_l : ∀ k, (∀ y0 y1 y2 y3, LeO (impl_blockValid.f k y0 y1 y2 y3) (impl_blockValid.f (k + 1) y0 y1 y2 y3)) ∧ (∀ y0 y1 y2 y3 y4, LeO (impl_blockValid.l0 k y0 y1 y2 y3 y4) (impl_blockValid.l0 (k + 1) y0 y1 y2 y3 y4))
  | 0 => ⟨fun _ _ _ _ r h => by simp [impl_blockValid.f] at h, fun _ _ _ _ _ r h => by simp [impl_blockValid.l0] at h⟩
  | k + 1 => by
    obtain ⟨ih0, ih1⟩ := impl_blockValid.mono_l k
    refine ⟨?_, ?_⟩
    · intro y0 y1 y2 y3
      unfold impl_blockValid.f
      repeat' first
      | (with_reducible exact ih0 _ _ _ _)
      | (with_reducible exact ih1 _ _ _ _ _)
      | (with_reducible exact impl_stmtValid.mono _ _ _ _ _ _ _ _ _ _)
      | (with_reducible exact LeO.refl _)
      | (with_reducible exact LeO.none _)
      | (with_reducible refine LeO.ite ?_ ?_)
      | (with_reducible refine LeO.bind ?_ (fun _ => ?_))
      | exact ih0 _ _ _ _
      | exact ih1 _ _ _ _ _
      | exact impl_stmtValid.mono _ _ _ _ _ _ _ _ _ _
      | exact LeO.none _
      | refine LeO.ite ?_ ?_
      | refine LeO.bind ?_ (fun _ => ?_)
    · intro y0 y1 y2 y3 y4
      unfold impl_blockValid.l0
      repeat' first
      | (with_reducible exact ih0 _ _ _ _)
      | (with_reducible exact ih1 _ _ _ _ _)
      | (with_reducible exact impl_stmtValid.mono _ _ _ _ _ _ _ _ _ _)
      | (with_reducible exact LeO.refl _)
      | (with_reducible exact LeO.none _)
      | (with_reducible refine LeO.ite ?_ ?_)
      | (with_reducible refine LeO.bind ?_ (fun _ => ?_))
      | exact ih0 _ _ _ _
      | exact ih1 _ _ _ _ _
      | exact impl_stmtValid.mono _ _ _ _ _ _ _ _ _ _
      | exact LeO.none _
      | refine LeO.ite ?_ ?_
      | refine LeO.bind ?_ (fun _ => ?_)
theorem impl_blockValid.mono : ∀ a0 a1 a2 a3 k, LeO (impl_blockValid.f k a0 a1 a2 a3) (impl_blockValid.f (k + 1) a0 a1 a2 a3) := by
  intro a0 a1 a2 a3 k
  obtain ⟨ih0, ih1⟩ := impl_blockValid.mono_l k
  exact ih0 a0 a1 a2 a3
theorem atF_T37 {w : World} {ok : Nat → Prop} {A : Option Addr} {n : Nat} {xs : List S37} (h : Kd.F k37 w ok A n xs) (i : Int) (h0 : 0 ≤ i) (h1 : i < n) :
    ∃ ad A5 c5 A6 c6 A7 c7, A = some ad ∧ w.cell? (ad.add (i.toNat * 8)) = some (.int .i64 (rd_T37 xs i).f0) ∧ w.cell? ⟨(ad.add (i.toNat * 8)).block, (ad.add (i.toNat * 8)).off + 1, none⟩ = some (.int .i64 (rd_T37 xs i).f1) ∧ w.cell? ⟨(ad.add (i.toNat * 8)).block, (ad.add (i.toNat * 8)).off + 2, none⟩ = some (.int .i64 (rd_T37 xs i).f2) ∧ w.cell? ⟨(ad.add (i.toNat * 8)).block, (ad.add (i.toNat * 8)).off + 3, none⟩ = some (.int .i64 (rd_T37 xs i).f3.f0) ∧ w.cell? ⟨(ad.add (i.toNat * 8)).block, (ad.add (i.toNat * 8)).off + 4, none⟩ = some (.int .i64 (rd_T37 xs i).f3.f1) ∧ w.cell? ⟨(ad.add (i.toNat * 8)).block, (ad.add (i.toNat * 8)).off + 5, none⟩ = some (.slice A5 (rd_T37 xs i).f3.f2.length c5) ∧ w.cell? ⟨(ad.add (i.toNat * 8)).block, (ad.add (i.toNat * 8)).off + 6, none⟩ = some (.slice A6 (rd_T37 xs i).f4.length c6) ∧ w.cell? ⟨(ad.add (i.toNat * 8)).block, (ad.add (i.toNat * 8)).off + 7, none⟩ = some (.slice A7 (rd_T37 xs i).f5.length c7) ∧ (rd_T37 xs i).f3.f2.length ≤ c5 ∧ Kd.F k34 w ok A5 (rd_T37 xs i).f3.f2.length (rd_T37 xs i).f3.f2 ∧ (rd_T37 xs i).f4.length ≤ c6 ∧ Kd.F k37 w ok A6 (rd_T37 xs i).f4.length (rd_T37 xs i).f4 ∧ (rd_T37 xs i).f5.length ≤ c7 ∧ Kd.F k37 w ok A7 (rd_T37 xs i).f5.length (rd_T37 xs i).f5 := by
  obtain ⟨ad, c, e, _, hK, hc0, _⟩ := Kd.F_get h z37 i h0 h1
  have hc : ∀ j u, c[j]? = some u → w.cell? (ad.add (i.toNat * 8 + j)) = some u := hc0
  obtain ⟨A5, c5, A6, c6, A7, c7, rfl, l5, g5, l6, g6, l7, g7⟩ := k37_openF hK
  exact ⟨ad, A5, c5, A6, c6, A7, c7, e, hc 0 _ rfl, by rw [← add_field _ _ 1 (by omega)]; exact hc 1 _ rfl, by rw [← add_field _ _ 2 (by omega)]; exact hc 2 _ rfl, by rw [← add_field _ _ 3 (by omega)]; exact hc 3 _ rfl, by rw [← add_field _ _ 4 (by omega)]; exact hc 4 _ rfl, by rw [← add_field _ _ 5 (by omega)]; exact hc 5 _ rfl, by rw [← add_field _ _ 6 (by omega)]; exact hc 6 _ rfl, by rw [← add_field _ _ 7 (by omega)]; exact hc 7 _ rfl, l5, g5, l6, g6, l7, g7⟩
theorem cell_keep {w w1 : World} {g : Nat} {a : Addr} {v : Value} (hk : KeepBut w w1 g none) (h : w.cell? a = some v) (hne : a.block ≠ g) : w1.cell? a = some v :=
  (World.cell?_of_block (w := w) (hk.2 a.block (World.block_lt_of_cell? w a h) hne (by simp))).trans h
set_option maxHeartbeats 8000000 in
set_option maxRecDepth 100000 in
theorem impl_blockValid.callsP (k : Nat) : ∀ (A : Option Addr) (c : Nat) (l : List S37) (boxes blocks cnt : Int) (gc B : Nat) (ok : Nat → Prop) (r : Bool) (cnt' : Int) (w : World)
    (hF : Kd.F k37 w ok A l.length l) (hc : l.length ≤ c) (hno : ¬ ok gc) (hB : B ≤ gc) (hb : w.heap[gc]? = some (.cells #[.int .i64 cnt] 3 (0, 0))) (h : impl_blockValid.f k l boxes blocks cnt = some (r, cnt')),
    Calls Try.prog 52 #[.slice A l.length c, .int .i64 boxes, .int .i64 blocks, .pointer (some ⟨gc, 0, none⟩)] w fun e w' => e = .returned (.bool r) ∧ w'.heap[gc]? = some (.cells #[.int .i64 cnt'] 3 (0, 0)) ∧ KeepBut w w' gc none ∧ Below B w w' := by
  induction k using Nat.strongRecOn with
  | _ k ih =>
  intro A c l boxes blocks cnt gc B ok r cnt' w hF hc hno hB hb h
  cases k with
  | zero => exact absurd h (by simp [impl_blockValid.f])
  | succ k =>
  simp only [impl_blockValid.f] at h
  have HF := Aside0.mk hF
  have HC := Aside0.mk hc
  have HNO := Aside0.mk hno
  have HGB := Aside0.mk hB
  have HBX := Aside0.mk hb
  have z0 : w.cell? ⟨gc, 0, none⟩ = some (.int .i64 cnt) := blk_cell hb 0
  have f0 := blk_frozen hb 0
  have HB1 := Aside0.mk (blk_put (cs' := #[.int .i64 (wrap64 (cnt + (l.length : Int)))]) hb 0 (.int .i64 (wrap64 (cnt + (l.length : Int)))) rfl)
  have HK1 := Aside0.mk (KeepBut.set_ (KeepBut.refl w gc none) 0 (.int .i64 (wrap64 (cnt + (l.length : Int)))))
  have HW1 := Aside0.mk (Below.setCell (p := ⟨gc, 0, none⟩) (Below.refl B w) hB (.int .i64 (wrap64 (cnt + (l.length : Int)))))
  clear hF hc hno hb hB
  by_cases c0 : 16 < wrap64 (cnt + (l.length : Int))
  · rw [if_pos c0] at h
    have h1 := Option.some.inj h
    injection h1 with h1 h2
    subst h1
    subst h2
    have c0b : decide (16 < wrap64 (cnt + (l.length : Int))) = true := decide_eq_true c0
    clear h
    go_enter Try.func52, Try.ntmps52
    go_wp2
    go_ret
    exact ⟨rfl, HB1.out, HK1.out, HW1.out⟩
  · rw [if_neg c0] at h
    have c0b : decide (16 < wrap64 (cnt + (l.length : Int))) = false := decide_eq_false c0
    have H' := Aside0.mk h
    clear h
    go_enter Try.func52, Try.ntmps52
    go_wp2
    go_loopg [24] k (fun kq v24 w' => ∃ (i cq : Int), v24 = .int .i64 i ∧ Aside0 (impl_blockValid.l0 kq l boxes blocks i cq = some (r, cnt')) ∧ Aside0 (kq ≤ k) ∧ Aside0 (w'.heap[gc]? = some (.cells #[.int .i64 cq] 3 (0, 0))) ∧ Aside0 (KeepBut w w' gc none) ∧ Aside0 (Below B w w'))
    case atStart => exact ⟨0, _, rfl, H', ⟨Nat.le_refl _⟩, HB1, HK1, HW1⟩
    case round =>
      obtain ⟨i, cq, rfl, HA, HK, HBQ, HKQ, HWQ⟩ := hrel
      cases gk with
      | zero => exact absurd HA.out (by simp [impl_blockValid.l0])
      | succ k1 =>
        have H := HA.out
        clear HA
        simp only [impl_blockValid.l0] at H
        by_cases c1 : i < (l.length : Int)
        · rw [if_pos c1] at H
          by_cases c2 : 0 ≤ i
          · rw [if_pos c2] at H
            replace H := Option.bind_eq_some_iff.mp H
            obtain ⟨t, ht, H⟩ := H
            have hF' := Kd.F_step HF.out (fun q hq hlt => HKQ.out.2 q hlt (fun e => HNO.out (e ▸ hq)) (by simp))
            obtain ⟨ad, A5, c5, A6, c6, A7, c7, rfl, x0, x1, x2, x3, x4, x5, x6, x7, l5, g5, l6, g6, l7, g7⟩ := atF_T37 hF' i c2 c1
            obtain ⟨ad_, cs_, e_, _, _, _, okad⟩ := Kd.F_get hF' z37 i c2 c1
            cases e_
            have NE7 := Aside0.mk (show (ad.add (i.toNat * 8)).block ≠ gc from fun e => HNO.out (e ▸ (add_block ad _).symm ▸ okad (by decide)))
            clear okad
            have HT := Aside0.mk ht
            have c1b : decide (i < (l.length : Int)) = true := decide_eq_true c1
            have p0 := eq_true c2
            have p1 := eq_true c1
            have G5 := Aside0.mk (Kd.F_now g5)
            have L5 := Aside0.mk l5
            have G6 := Aside0.mk g6
            have L6 := Aside0.mk l6
            have G7 := Aside0.mk g7
            have L7 := Aside0.mk l7
            clear ht hF' g5 l5 g6 l6 g7 l7 c1 c2 z0 f0
            cases t with
            | false =>
              rw [if_neg (by decide)] at H
              have h1 := Option.some.inj H
              injection h1 with h1 h2
              subst h1
              subst h2
              clear H
              go_wp2_with (first | ((with_reducible refine (impl_stmtValid.callsP k1 (ad.add (i.toNat * 8)) _ _ _ _ _ A5 c5 _ A6 _ c6 A7 _ c7 _ _ _ x0 x1 x2 x3 x4 x5 x6 x7 G5.out L5.out HT.out).mono ?_); rintro e wa ⟨rfl, hb⟩; have y0 := pw_cell_below hb x0; have y6 := pw_cell_below hb x6; have y7 := pw_cell_below hb x7; have BXA := Aside0.mk (blk_below HBQ.out hb); have KA := Aside0.mk (KeepBut.trans HKQ.out (KeepBut.of_below hb gc none) (.inl rfl)); have WA := Aside0.mk (HWQ.out.trans (hb.mono (Nat.le_of_lt (Nat.lt_of_le_of_lt HGB.out (blk_lt HBQ.out))))); have G6A := Aside0.mk (Kd.F_below G6.out hb); have G7A := Aside0.mk (Kd.F_below G7.out hb); clear hb; (try dsimp only)))
              go_ret
              exact ⟨rfl, BXA.out, KA.out, WA.out⟩
            | true =>
              rw [if_pos rfl] at H
              by_cases c3 : 3 < blocks
              · rw [if_pos c3] at H
                have c3b : decide (3 < blocks) = true := decide_eq_true c3
                have h1 := Option.some.inj H
                injection h1 with h1 h2
                subst h1
                subst h2
                clear H
                go_wp2_with (first | ((with_reducible refine (impl_stmtValid.callsP k1 (ad.add (i.toNat * 8)) _ _ _ _ _ A5 c5 _ A6 _ c6 A7 _ c7 _ _ _ x0 x1 x2 x3 x4 x5 x6 x7 G5.out L5.out HT.out).mono ?_); rintro e wa ⟨rfl, hb⟩; have y0 := pw_cell_below hb x0; have y6 := pw_cell_below hb x6; have y7 := pw_cell_below hb x7; have BXA := Aside0.mk (blk_below HBQ.out hb); have KA := Aside0.mk (KeepBut.trans HKQ.out (KeepBut.of_below hb gc none) (.inl rfl)); have WA := Aside0.mk (HWQ.out.trans (hb.mono (Nat.le_of_lt (Nat.lt_of_le_of_lt HGB.out (blk_lt HBQ.out))))); have G6A := Aside0.mk (Kd.F_below G6.out hb); have G7A := Aside0.mk (Kd.F_below G7.out hb); clear hb; (try dsimp only)))
                go_ret
                exact ⟨rfl, BXA.out, KA.out, WA.out⟩
              · rw [if_neg c3] at H
                have c3b : decide (3 < blocks) = false := decide_eq_false c3
                by_cases c4 : (rd_T37 l i).f0 = 2 ∨ (rd_T37 l i).f0 = 3
                · rw [if_pos c4] at H
                  by_cases c5_ : 3 ≤ blocks
                  · rw [if_pos c5_] at H
                    have c5b : decide (3 ≤ blocks) = true := decide_eq_true c5_
                    clear c3 c5_
                    have h1 := Option.some.inj H
                    injection h1 with h1 h2
                    subst h1
                    subst h2
                    clear H
                    rcases c4 with c4 | c4
                    · have d2 : ((rd_T37 l i).f0 != 2) = false := bne_eq_false_iff_eq.mpr c4
                      clear c4
                      go_wp2_with (first | ((with_reducible refine (impl_stmtValid.callsP k1 (ad.add (i.toNat * 8)) _ _ _ _ _ A5 c5 _ A6 _ c6 A7 _ c7 _ _ _ x0 x1 x2 x3 x4 x5 x6 x7 G5.out L5.out HT.out).mono ?_); rintro e wa ⟨rfl, hb⟩; have y0 := pw_cell_below hb x0; have y6 := pw_cell_below hb x6; have y7 := pw_cell_below hb x7; have BXA := Aside0.mk (blk_below HBQ.out hb); have KA := Aside0.mk (KeepBut.trans HKQ.out (KeepBut.of_below hb gc none) (.inl rfl)); have WA := Aside0.mk (HWQ.out.trans (hb.mono (Nat.le_of_lt (Nat.lt_of_le_of_lt HGB.out (blk_lt HBQ.out))))); have G6A := Aside0.mk (Kd.F_below G6.out hb); have G7A := Aside0.mk (Kd.F_below G7.out hb); clear hb; (try dsimp only)))
                      go_ret
                      exact ⟨rfl, BXA.out, KA.out, WA.out⟩
                    · have d2 : ((rd_T37 l i).f0 != 2) = true := bne_iff_ne.mpr (by omega)
                      have d3 : ((rd_T37 l i).f0 != 3) = false := bne_eq_false_iff_eq.mpr c4
                      clear c4
                      go_wp2_with (first | ((with_reducible refine (impl_stmtValid.callsP k1 (ad.add (i.toNat * 8)) _ _ _ _ _ A5 c5 _ A6 _ c6 A7 _ c7 _ _ _ x0 x1 x2 x3 x4 x5 x6 x7 G5.out L5.out HT.out).mono ?_); rintro e wa ⟨rfl, hb⟩; have y0 := pw_cell_below hb x0; have y6 := pw_cell_below hb x6; have y7 := pw_cell_below hb x7; have BXA := Aside0.mk (blk_below HBQ.out hb); have KA := Aside0.mk (KeepBut.trans HKQ.out (KeepBut.of_below hb gc none) (.inl rfl)); have WA := Aside0.mk (HWQ.out.trans (hb.mono (Nat.le_of_lt (Nat.lt_of_le_of_lt HGB.out (blk_lt HBQ.out))))); have G6A := Aside0.mk (Kd.F_below G6.out hb); have G7A := Aside0.mk (Kd.F_below G7.out hb); clear hb; (try dsimp only)))
                      go_ret
                      exact ⟨rfl, BXA.out, KA.out, WA.out⟩
                  · rw [if_neg c5_] at H
                    have c5b : decide (3 ≤ blocks) = false := decide_eq_false c5_
                    clear c3 c5_
                    replace H := Option.bind_eq_some_iff.mp H
                    obtain ⟨⟨r1, c1_⟩, hp, H⟩ := H
                    have HP := Aside0.mk hp
                    clear hp
                    cases r1 with
                    | false =>
                      rw [if_neg Bool.false_ne_true] at H
                      have h1 := Option.some.inj H
                      injection h1 with h1 h2
                      subst h1
                      subst h2
                      clear H
                      rcases c4 with c4 | c4
                      · have d2 : ((rd_T37 l i).f0 != 2) = false := bne_eq_false_iff_eq.mpr c4
                        clear c4
                        go_wp2_with (first | ((with_reducible refine (impl_stmtValid.callsP k1 (ad.add (i.toNat * 8)) _ _ _ _ _ A5 c5 _ A6 _ c6 A7 _ c7 _ _ _ x0 x1 x2 x3 x4 x5 x6 x7 G5.out L5.out HT.out).mono ?_); rintro e wa ⟨rfl, hb⟩; have y0 := pw_cell_below hb x0; have y6 := pw_cell_below hb x6; have y7 := pw_cell_below hb x7; have BXA := Aside0.mk (blk_below HBQ.out hb); have KA := Aside0.mk (KeepBut.trans HKQ.out (KeepBut.of_below hb gc none) (.inl rfl)); have WA := Aside0.mk (HWQ.out.trans (hb.mono (Nat.le_of_lt (Nat.lt_of_le_of_lt HGB.out (blk_lt HBQ.out))))); have G6A := Aside0.mk (Kd.F_below G6.out hb); have G7A := Aside0.mk (Kd.F_below G7.out hb); clear hb; (try dsimp only)) | ((with_reducible refine (ih k1 (by have := HK.out; omega) A6 c6 _ boxes (wrap64 (blocks + 1)) cq gc B ok _ _ _ G6A.out L6.out HNO.out HGB.out BXA.out HP.out).mono ?_); rintro e wb ⟨rfl, hx, hk, hw⟩; have ne7 := Aside0.mk hk; have u7 := cell_keep hk y7 NE7.out; have G7B := Aside0.mk (Kd.F_step G7A.out (fun q hq hlt => hk.2 q hlt (fun e => HNO.out (e ▸ hq)) (by simp))); have BXB := Aside0.mk hx; have KB := Aside0.mk (KeepBut.trans KA.out hk (.inl rfl)); have WB := Aside0.mk (WA.out.trans hw); clear hx hk hw; (try dsimp only)))
                        go_ret
                        exact ⟨rfl, BXB.out, KB.out, WB.out⟩
                      · have d2 : ((rd_T37 l i).f0 != 2) = true := bne_iff_ne.mpr (by omega)
                        have d3 : ((rd_T37 l i).f0 != 3) = false := bne_eq_false_iff_eq.mpr c4
                        clear c4
                        go_wp2_with (first | ((with_reducible refine (impl_stmtValid.callsP k1 (ad.add (i.toNat * 8)) _ _ _ _ _ A5 c5 _ A6 _ c6 A7 _ c7 _ _ _ x0 x1 x2 x3 x4 x5 x6 x7 G5.out L5.out HT.out).mono ?_); rintro e wa ⟨rfl, hb⟩; have y0 := pw_cell_below hb x0; have y6 := pw_cell_below hb x6; have y7 := pw_cell_below hb x7; have BXA := Aside0.mk (blk_below HBQ.out hb); have KA := Aside0.mk (KeepBut.trans HKQ.out (KeepBut.of_below hb gc none) (.inl rfl)); have WA := Aside0.mk (HWQ.out.trans (hb.mono (Nat.le_of_lt (Nat.lt_of_le_of_lt HGB.out (blk_lt HBQ.out))))); have G6A := Aside0.mk (Kd.F_below G6.out hb); have G7A := Aside0.mk (Kd.F_below G7.out hb); clear hb; (try dsimp only)) | ((with_reducible refine (ih k1 (by have := HK.out; omega) A6 c6 _ boxes (wrap64 (blocks + 1)) cq gc B ok _ _ _ G6A.out L6.out HNO.out HGB.out BXA.out HP.out).mono ?_); rintro e wb ⟨rfl, hx, hk, hw⟩; have ne7 := Aside0.mk hk; have u7 := cell_keep hk y7 NE7.out; have G7B := Aside0.mk (Kd.F_step G7A.out (fun q hq hlt => hk.2 q hlt (fun e => HNO.out (e ▸ hq)) (by simp))); have BXB := Aside0.mk hx; have KB := Aside0.mk (KeepBut.trans KA.out hk (.inl rfl)); have WB := Aside0.mk (WA.out.trans hw); clear hx hk hw; (try dsimp only)))
                        go_ret
                        exact ⟨rfl, BXB.out, KB.out, WB.out⟩
                    | true =>
                      rw [if_pos rfl] at H
                      replace H := Option.bind_eq_some_iff.mp H
                      obtain ⟨⟨r2, c2_⟩, hq, H⟩ := H
                      have HQ := Aside0.mk hq
                      clear hq
                      cases r2 with
                      | false =>
                        rw [if_neg Bool.false_ne_true] at H
                        have h1 := Option.some.inj H
                        injection h1 with h1 h2
                        subst h1
                        subst h2
                        clear H
                        rcases c4 with c4 | c4
                        · have d2 : ((rd_T37 l i).f0 != 2) = false := bne_eq_false_iff_eq.mpr c4
                          clear c4
                          go_wp2_with (first | ((with_reducible refine (impl_stmtValid.callsP k1 (ad.add (i.toNat * 8)) _ _ _ _ _ A5 c5 _ A6 _ c6 A7 _ c7 _ _ _ x0 x1 x2 x3 x4 x5 x6 x7 G5.out L5.out HT.out).mono ?_); rintro e wa ⟨rfl, hb⟩; have y0 := pw_cell_below hb x0; have y6 := pw_cell_below hb x6; have y7 := pw_cell_below hb x7; have BXA := Aside0.mk (blk_below HBQ.out hb); have KA := Aside0.mk (KeepBut.trans HKQ.out (KeepBut.of_below hb gc none) (.inl rfl)); have WA := Aside0.mk (HWQ.out.trans (hb.mono (Nat.le_of_lt (Nat.lt_of_le_of_lt HGB.out (blk_lt HBQ.out))))); have G6A := Aside0.mk (Kd.F_below G6.out hb); have G7A := Aside0.mk (Kd.F_below G7.out hb); clear hb; (try dsimp only)) | ((with_reducible refine (ih k1 (by have := HK.out; omega) A6 c6 _ boxes (wrap64 (blocks + 1)) cq gc B ok _ _ _ G6A.out L6.out HNO.out HGB.out BXA.out HP.out).mono ?_); rintro e wb ⟨rfl, hx, hk, hw⟩; have ne7 := Aside0.mk hk; have u7 := cell_keep hk y7 NE7.out; have G7B := Aside0.mk (Kd.F_step G7A.out (fun q hq hlt => hk.2 q hlt (fun e => HNO.out (e ▸ hq)) (by simp))); have BXB := Aside0.mk hx; have KB := Aside0.mk (KeepBut.trans KA.out hk (.inl rfl)); have WB := Aside0.mk (WA.out.trans hw); clear hx hk hw; (try dsimp only)) | ((with_reducible refine (ih k1 (by have := HK.out; omega) A7 c7 _ boxes (wrap64 (blocks + 1)) _ gc B ok _ _ _ G7B.out L7.out HNO.out HGB.out BXB.out HQ.out).mono ?_); rintro e wd ⟨rfl, hx, hk, hw⟩; have BXD := Aside0.mk hx; have KD := Aside0.mk (KeepBut.trans KB.out hk (.inl rfl)); have WD := Aside0.mk (WB.out.trans hw); clear hx hk hw; (try dsimp only)))
                          go_ret
                          exact ⟨rfl, BXD.out, KD.out, WD.out⟩
                        · have d2 : ((rd_T37 l i).f0 != 2) = true := bne_iff_ne.mpr (by omega)
                          have d3 : ((rd_T37 l i).f0 != 3) = false := bne_eq_false_iff_eq.mpr c4
                          clear c4
                          go_wp2_with (first | ((with_reducible refine (impl_stmtValid.callsP k1 (ad.add (i.toNat * 8)) _ _ _ _ _ A5 c5 _ A6 _ c6 A7 _ c7 _ _ _ x0 x1 x2 x3 x4 x5 x6 x7 G5.out L5.out HT.out).mono ?_); rintro e wa ⟨rfl, hb⟩; have y0 := pw_cell_below hb x0; have y6 := pw_cell_below hb x6; have y7 := pw_cell_below hb x7; have BXA := Aside0.mk (blk_below HBQ.out hb); have KA := Aside0.mk (KeepBut.trans HKQ.out (KeepBut.of_below hb gc none) (.inl rfl)); have WA := Aside0.mk (HWQ.out.trans (hb.mono (Nat.le_of_lt (Nat.lt_of_le_of_lt HGB.out (blk_lt HBQ.out))))); have G6A := Aside0.mk (Kd.F_below G6.out hb); have G7A := Aside0.mk (Kd.F_below G7.out hb); clear hb; (try dsimp only)) | ((with_reducible refine (ih k1 (by have := HK.out; omega) A6 c6 _ boxes (wrap64 (blocks + 1)) cq gc B ok _ _ _ G6A.out L6.out HNO.out HGB.out BXA.out HP.out).mono ?_); rintro e wb ⟨rfl, hx, hk, hw⟩; have ne7 := Aside0.mk hk; have u7 := cell_keep hk y7 NE7.out; have G7B := Aside0.mk (Kd.F_step G7A.out (fun q hq hlt => hk.2 q hlt (fun e => HNO.out (e ▸ hq)) (by simp))); have BXB := Aside0.mk hx; have KB := Aside0.mk (KeepBut.trans KA.out hk (.inl rfl)); have WB := Aside0.mk (WA.out.trans hw); clear hx hk hw; (try dsimp only)) | ((with_reducible refine (ih k1 (by have := HK.out; omega) A7 c7 _ boxes (wrap64 (blocks + 1)) _ gc B ok _ _ _ G7B.out L7.out HNO.out HGB.out BXB.out HQ.out).mono ?_); rintro e wd ⟨rfl, hx, hk, hw⟩; have BXD := Aside0.mk hx; have KD := Aside0.mk (KeepBut.trans KB.out hk (.inl rfl)); have WD := Aside0.mk (WB.out.trans hw); clear hx hk hw; (try dsimp only)))
                          go_ret
                          exact ⟨rfl, BXD.out, KD.out, WD.out⟩
                      | true =>
                        rw [if_pos rfl] at H
                        have H' := Aside0.mk H
                        clear H
                        rcases c4 with c4 | c4
                        · have d2 : ((rd_T37 l i).f0 != 2) = false := bne_eq_false_iff_eq.mpr c4
                          clear c4
                          go_wp2_with (first | ((with_reducible refine (impl_stmtValid.callsP k1 (ad.add (i.toNat * 8)) _ _ _ _ _ A5 c5 _ A6 _ c6 A7 _ c7 _ _ _ x0 x1 x2 x3 x4 x5 x6 x7 G5.out L5.out HT.out).mono ?_); rintro e wa ⟨rfl, hb⟩; have y0 := pw_cell_below hb x0; have y6 := pw_cell_below hb x6; have y7 := pw_cell_below hb x7; have BXA := Aside0.mk (blk_below HBQ.out hb); have KA := Aside0.mk (KeepBut.trans HKQ.out (KeepBut.of_below hb gc none) (.inl rfl)); have WA := Aside0.mk (HWQ.out.trans (hb.mono (Nat.le_of_lt (Nat.lt_of_le_of_lt HGB.out (blk_lt HBQ.out))))); have G6A := Aside0.mk (Kd.F_below G6.out hb); have G7A := Aside0.mk (Kd.F_below G7.out hb); clear hb; (try dsimp only)) | ((with_reducible refine (ih k1 (by have := HK.out; omega) A6 c6 _ boxes (wrap64 (blocks + 1)) cq gc B ok _ _ _ G6A.out L6.out HNO.out HGB.out BXA.out HP.out).mono ?_); rintro e wb ⟨rfl, hx, hk, hw⟩; have ne7 := Aside0.mk hk; have u7 := cell_keep hk y7 NE7.out; have G7B := Aside0.mk (Kd.F_step G7A.out (fun q hq hlt => hk.2 q hlt (fun e => HNO.out (e ▸ hq)) (by simp))); have BXB := Aside0.mk hx; have KB := Aside0.mk (KeepBut.trans KA.out hk (.inl rfl)); have WB := Aside0.mk (WA.out.trans hw); clear hx hk hw; (try dsimp only)) | ((with_reducible refine (ih k1 (by have := HK.out; omega) A7 c7 _ boxes (wrap64 (blocks + 1)) _ gc B ok _ _ _ G7B.out L7.out HNO.out HGB.out BXB.out HQ.out).mono ?_); rintro e wd ⟨rfl, hx, hk, hw⟩; have BXD := Aside0.mk hx; have KD := Aside0.mk (KeepBut.trans KB.out hk (.inl rfl)); have WD := Aside0.mk (WB.out.trans hw); clear hx hk hw; (try dsimp only)))
                          go_roundg k1
                          case measure => have := HK.out; omega
                          case rel => exact ⟨wrap64 (i + 1), c2_, (by first | rfl | (simp; done) | (simp [*]; done)), H', ⟨by have := HK.out; omega⟩, BXD, KD, WD⟩
                        · have d2 : ((rd_T37 l i).f0 != 2) = true := bne_iff_ne.mpr (by omega)
                          have d3 : ((rd_T37 l i).f0 != 3) = false := bne_eq_false_iff_eq.mpr c4
                          clear c4
                          go_wp2_with (first | ((with_reducible refine (impl_stmtValid.callsP k1 (ad.add (i.toNat * 8)) _ _ _ _ _ A5 c5 _ A6 _ c6 A7 _ c7 _ _ _ x0 x1 x2 x3 x4 x5 x6 x7 G5.out L5.out HT.out).mono ?_); rintro e wa ⟨rfl, hb⟩; have y0 := pw_cell_below hb x0; have y6 := pw_cell_below hb x6; have y7 := pw_cell_below hb x7; have BXA := Aside0.mk (blk_below HBQ.out hb); have KA := Aside0.mk (KeepBut.trans HKQ.out (KeepBut.of_below hb gc none) (.inl rfl)); have WA := Aside0.mk (HWQ.out.trans (hb.mono (Nat.le_of_lt (Nat.lt_of_le_of_lt HGB.out (blk_lt HBQ.out))))); have G6A := Aside0.mk (Kd.F_below G6.out hb); have G7A := Aside0.mk (Kd.F_below G7.out hb); clear hb; (try dsimp only)) | ((with_reducible refine (ih k1 (by have := HK.out; omega) A6 c6 _ boxes (wrap64 (blocks + 1)) cq gc B ok _ _ _ G6A.out L6.out HNO.out HGB.out BXA.out HP.out).mono ?_); rintro e wb ⟨rfl, hx, hk, hw⟩; have ne7 := Aside0.mk hk; have u7 := cell_keep hk y7 NE7.out; have G7B := Aside0.mk (Kd.F_step G7A.out (fun q hq hlt => hk.2 q hlt (fun e => HNO.out (e ▸ hq)) (by simp))); have BXB := Aside0.mk hx; have KB := Aside0.mk (KeepBut.trans KA.out hk (.inl rfl)); have WB := Aside0.mk (WA.out.trans hw); clear hx hk hw; (try dsimp only)) | ((with_reducible refine (ih k1 (by have := HK.out; omega) A7 c7 _ boxes (wrap64 (blocks + 1)) _ gc B ok _ _ _ G7B.out L7.out HNO.out HGB.out BXB.out HQ.out).mono ?_); rintro e wd ⟨rfl, hx, hk, hw⟩; have BXD := Aside0.mk hx; have KD := Aside0.mk (KeepBut.trans KB.out hk (.inl rfl)); have WD := Aside0.mk (WB.out.trans hw); clear hx hk hw; (try dsimp only)))
                          go_roundg k1
                          case measure => have := HK.out; omega
                          case rel => exact ⟨wrap64 (i + 1), c2_, (by first | rfl | (simp; done) | (simp [*]; done)), H', ⟨by have := HK.out; omega⟩, BXD, KD, WD⟩
                · rw [if_neg c4] at H
                  have d2 : ((rd_T37 l i).f0 != 2) = true := bne_iff_ne.mpr (fun e => c4 (.inl e))
                  have d3 : ((rd_T37 l i).f0 != 3) = true := bne_iff_ne.mpr (fun e => c4 (.inr e))
                  have H' := Aside0.mk H
                  clear H c3 c4
                  go_wp2_with (first | ((with_reducible refine (impl_stmtValid.callsP k1 (ad.add (i.toNat * 8)) _ _ _ _ _ A5 c5 _ A6 _ c6 A7 _ c7 _ _ _ x0 x1 x2 x3 x4 x5 x6 x7 G5.out L5.out HT.out).mono ?_); rintro e wa ⟨rfl, hb⟩; have y0 := pw_cell_below hb x0; have y6 := pw_cell_below hb x6; have y7 := pw_cell_below hb x7; have BXA := Aside0.mk (blk_below HBQ.out hb); have KA := Aside0.mk (KeepBut.trans HKQ.out (KeepBut.of_below hb gc none) (.inl rfl)); have WA := Aside0.mk (HWQ.out.trans (hb.mono (Nat.le_of_lt (Nat.lt_of_le_of_lt HGB.out (blk_lt HBQ.out))))); have G6A := Aside0.mk (Kd.F_below G6.out hb); have G7A := Aside0.mk (Kd.F_below G7.out hb); clear hb; (try dsimp only)))
                  go_roundg k1
                  case measure => have := HK.out; omega
                  case rel => exact ⟨wrap64 (i + 1), cq, (by first | rfl | (simp; done) | (simp [*]; done)), H', ⟨by have := HK.out; omega⟩, BXA, KA, WA⟩
          · rw [if_neg c2] at H
            exact absurd H (by simp)
        · rw [if_neg c1] at H
          have c1b : decide (i < (l.length : Int)) = false := decide_eq_false c1
          have h1 := Option.some.inj H
          injection h1 with h1 h2
          subst h1
          subst h2
          clear H
          go_wp2
          go_ret
          exact ⟨rfl, HBQ.out, HKQ.out, HWQ.out⟩

end Go.Proofs.Ytpcbfcaacilghaa.PA

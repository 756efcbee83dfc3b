-- made by a program of this session (wip/myprint.py over the kit's print)
import Derived.Test.YtpcbfcaacilghaaV
import Derived.Test.YtpcbfcaacilghaaPAx0
import Derived.Test.YtpcbfcaacilghaaPAx1
namespace Go.Proofs.Ytpcbfcaacilghaa.PA
open Go.RowKit Go.Proofs.YtpcbfcaacilghaaW.PrintWords Go.Proofs.YtpcbfcaacilghaaW.PrintLast Go.Proofs.YtpcbfcaacilghaaW.PrintMore
attribute [local go_sem] max2_int min2_int max_two min_two max_three min_three max_four min_four   -- for this text's walks alone
set_option linter.unusedVariables false
set_option linter.unusedSimpArgs false

/-! ### impl_hasLoop: function 41 -/
theorem impl_hasLoop.mono_all : ∀ k, (∀ a b, LeO (impl_hasLoop.l0 k a b) (impl_hasLoop.l0 (k + 1) a b)) ∧ (∀ s, LeO (impl_hasLoop.one k s) (impl_hasLoop.one (k + 1) s)) ∧ (∀ a, LeO (impl_hasLoop.f k a) (impl_hasLoop.f (k + 1) a))
  | 0 => ⟨fun _ _ r h => by simp [impl_hasLoop.l0] at h, fun _ r h => by simp [impl_hasLoop.one] at h, fun _ r h => by simp [impl_hasLoop.f] at h⟩
  | k + 1 => by
    obtain ⟨i0, i1, i2⟩ := impl_hasLoop.mono_all k
    refine ⟨fun a b => ?_, fun s => ?_, fun a => ?_⟩
    · unfold impl_hasLoop.l0
      exact LeO.ite (LeO.ite (LeO.bind (i1 _) (fun _ => LeO.ite (LeO.refl _) (i0 _ _))) (LeO.none _)) (LeO.refl _)
    · unfold impl_hasLoop.one
      exact LeO.ite (LeO.refl _) (LeO.bind (i2 _) (fun _ => LeO.ite (LeO.refl _) (i2 _)))
    · unfold impl_hasLoop.f
      exact i0 _ _
theorem impl_anyLoop.mono : ∀ k a b, LeO (impl_anyLoop.l0 k a b) (impl_anyLoop.l0 (k + 1) a b)
  | 0, _, _ => fun r h => by simp [impl_anyLoop.l0] at h
  | k + 1, a, b => by
    unfold impl_anyLoop.l0
    exact LeO.ite (LeO.ite (LeO.bind ((impl_hasLoop.mono_all k).2.2 _) (fun _ => LeO.ite (LeO.refl _) (impl_anyLoop.mono k _ _))) (LeO.none _)) (LeO.refl _)
abbrev hl_one (k : Nat) : Prop := ∀ (s : S37) (A5 : Option Addr) (c5 : Nat) (A6 : Option Addr) (c6 : Nat) (A7 : Option Addr) (c7 : Nat) (r : Bool) (w : World) (h6 : Kd.C k37 w A6 s.f4.length s.f4) (l6 : s.f4.length ≤ c6) (h7 : Kd.C k37 w A7 s.f5.length s.f5) (l7 : s.f5.length ≤ c7) (h : impl_hasLoop.one k s = some r),
    Calls Try.prog 56 #[.agg #[(.int .i64 s.f0), (.int .i64 s.f1), (.int .i64 s.f2), (.int .i64 s.f3.f0), (.int .i64 s.f3.f1), (.slice A5 s.f3.f2.length c5), (.slice A6 s.f4.length c6), (.slice A7 s.f5.length c7)]] w fun e w' => e = .returned (.bool r) ∧ Below w.heap.size w w'
abbrev hl_f (k : Nat) : Prop := ∀ (A : Option Addr) (c : Nat) (l : List S37) (r : Bool) (w : World) (hr : Kd.C k37 w A l.length l) (hc : l.length ≤ c) (h : impl_hasLoop.f k l = some r),
    Calls Try.prog 41 #[.slice A l.length c] w fun e w' => e = .returned (.bool r) ∧ Below w.heap.size w w'
abbrev hl_ix (k : Nat) : Prop := ∀ (A : Option Addr) (c : Nat) (l : List S37) (r : Bool) (w : World) (hr : Kd.C k37 w A l.length l) (hc : l.length ≤ c) (h : impl_hasLoop.l0 k l 0 = some r),
    Calls Try.prog 66 #[.slice A l.length c, (.func (.func 56) #[] #[])] w fun e w' => ∃ n : Int, e = .returned (.int .i64 n) ∧ decide (0 ≤ n) = r ∧ Below w.heap.size w w'
set_option maxHeartbeats 8000000 in
set_option maxRecDepth 100000 in
theorem hl_one.step (k : Nat) (ih : ∀ m, m < k → hl_f m) : hl_one k := by
  intro s A5 c5 A6 c6 A7 c7 r w h6 l6 h7 l7 h
  cases k with
  | zero => exact absurd h (by simp [impl_hasLoop.one])
  | succ k =>
  simp only [impl_hasLoop.one] at h
  have H6 := Aside0.mk h6
  have L6 := Aside0.mk l6
  have H7 := Aside0.mk h7
  have L7 := Aside0.mk l7
  clear h6 l6 h7 l7
  by_cases c3 : s.f0 = 3
  · rw [if_pos c3] at h
    obtain rfl := Option.some.inj h
    have c3b : (s.f0 == 3) = true := beq_iff_eq.mpr c3
    clear c3
    go_enter Try.func56, Try.ntmps56
    go_wp2_with (first | ((with_reducible refine gate_dst (N := 1) rfl ?_); refine box_event (N := 1) ?hg ?hd (cs := #[(.int .i64 s.f0), (.int .i64 s.f1), (.int .i64 s.f2), (.int .i64 s.f3.f0), (.int .i64 s.f3.f1), (.slice A5 s.f3.f2.length c5), (.slice A6 s.f4.length c6), (.slice A7 s.f5.length c7)]) (t := 37) ?hr ?_; (case hd => rfl); (case hg => rfl); (case hr => first | (go_simp; done) | (go_simp; rfl)); intro g1 hg w1 hbox hb; have B := Aside0.mk hb; have X1 := Aside0.mk hbox; have yp0 : w1.cell? ⟨g1, 0, none⟩ = some (.int .i64 s.f0) := blk_cell hbox 0; have yp1 : w1.cell? ⟨g1, 1, none⟩ = some (.int .i64 s.f1) := blk_cell hbox 1; have yp2 : w1.cell? ⟨g1, 2, none⟩ = some (.int .i64 s.f2) := blk_cell hbox 2; have yp3 : w1.cell? ⟨g1, 3, none⟩ = some (.int .i64 s.f3.f0) := blk_cell hbox 3; have yp4 : w1.cell? ⟨g1, 4, none⟩ = some (.int .i64 s.f3.f1) := blk_cell hbox 4; have yp5 : w1.cell? ⟨g1, 5, none⟩ = some (.slice A5 s.f3.f2.length c5) := blk_cell hbox 5; have yp6 : w1.cell? ⟨g1, 6, none⟩ = some (.slice A6 s.f4.length c6) := blk_cell hbox 6; have yp7 : w1.cell? ⟨g1, 7, none⟩ = some (.slice A7 s.f5.length c7) := blk_cell hbox 7; clear hb hbox hg) | fail)
    go_ret
    exact ⟨rfl, B.out⟩
  · rw [if_neg c3] at h
    have c3b : (s.f0 == 3) = false := beq_eq_false_iff_ne.mpr c3
    clear c3
    replace h := Option.bind_eq_some_iff.mp h
    obtain ⟨b, hb, h⟩ := h
    have HB1 := Aside0.mk hb
    clear hb
    cases b with
    | true =>
      rw [if_pos rfl] at h
      obtain rfl := Option.some.inj h
      go_enter Try.func56, Try.ntmps56
      go_wp2_with (first | ((with_reducible refine gate_dst (N := 1) rfl ?_); refine box_event (N := 1) ?hg ?hd (cs := #[(.int .i64 s.f0), (.int .i64 s.f1), (.int .i64 s.f2), (.int .i64 s.f3.f0), (.int .i64 s.f3.f1), (.slice A5 s.f3.f2.length c5), (.slice A6 s.f4.length c6), (.slice A7 s.f5.length c7)]) (t := 37) ?hr ?_; (case hd => rfl); (case hg => rfl); (case hr => first | (go_simp; done) | (go_simp; rfl)); intro g1 hg w1 hbox hb; have B := Aside0.mk hb; have X1 := Aside0.mk hbox; have yp0 : w1.cell? ⟨g1, 0, none⟩ = some (.int .i64 s.f0) := blk_cell hbox 0; have yp1 : w1.cell? ⟨g1, 1, none⟩ = some (.int .i64 s.f1) := blk_cell hbox 1; have yp2 : w1.cell? ⟨g1, 2, none⟩ = some (.int .i64 s.f2) := blk_cell hbox 2; have yp3 : w1.cell? ⟨g1, 3, none⟩ = some (.int .i64 s.f3.f0) := blk_cell hbox 3; have yp4 : w1.cell? ⟨g1, 4, none⟩ = some (.int .i64 s.f3.f1) := blk_cell hbox 4; have yp5 : w1.cell? ⟨g1, 5, none⟩ = some (.slice A5 s.f3.f2.length c5) := blk_cell hbox 5; have yp6 : w1.cell? ⟨g1, 6, none⟩ = some (.slice A6 s.f4.length c6) := blk_cell hbox 6; have yp7 : w1.cell? ⟨g1, 7, none⟩ = some (.slice A7 s.f5.length c7) := blk_cell hbox 7; clear hb hbox hg) | ((with_reducible refine (ih k (by omega) A6 c6 s.f4 true _ (Kd.C_below H6.out B.out) L6.out HB1.out).mono ?_); rintro e w2 ⟨rfl, hb⟩; have b_ := Aside0.mk (below_step B.out hb); have x_ := Aside0.mk (blk_below X1.out hb); clear B X1 yp0 yp1 yp2 yp3 yp4 yp5 yp6 yp7; have B := b_; have X1 := x_; have yp0 : w2.cell? ⟨g1, 0, none⟩ = some (.int .i64 s.f0) := blk_cell X1.out 0; have yp1 : w2.cell? ⟨g1, 1, none⟩ = some (.int .i64 s.f1) := blk_cell X1.out 1; have yp2 : w2.cell? ⟨g1, 2, none⟩ = some (.int .i64 s.f2) := blk_cell X1.out 2; have yp3 : w2.cell? ⟨g1, 3, none⟩ = some (.int .i64 s.f3.f0) := blk_cell X1.out 3; have yp4 : w2.cell? ⟨g1, 4, none⟩ = some (.int .i64 s.f3.f1) := blk_cell X1.out 4; have yp5 : w2.cell? ⟨g1, 5, none⟩ = some (.slice A5 s.f3.f2.length c5) := blk_cell X1.out 5; have yp6 : w2.cell? ⟨g1, 6, none⟩ = some (.slice A6 s.f4.length c6) := blk_cell X1.out 6; have yp7 : w2.cell? ⟨g1, 7, none⟩ = some (.slice A7 s.f5.length c7) := blk_cell X1.out 7; clear b_ x_ hb; (try dsimp only)) | fail)
      go_ret
      exact ⟨rfl, B.out⟩
    | false =>
      rw [if_neg Bool.false_ne_true] at h
      have HB2 := Aside0.mk h
      clear h
      go_enter Try.func56, Try.ntmps56
      go_wp2_with (first | ((with_reducible refine gate_dst (N := 1) rfl ?_); refine box_event (N := 1) ?hg ?hd (cs := #[(.int .i64 s.f0), (.int .i64 s.f1), (.int .i64 s.f2), (.int .i64 s.f3.f0), (.int .i64 s.f3.f1), (.slice A5 s.f3.f2.length c5), (.slice A6 s.f4.length c6), (.slice A7 s.f5.length c7)]) (t := 37) ?hr ?_; (case hd => rfl); (case hg => rfl); (case hr => first | (go_simp; done) | (go_simp; rfl)); intro g1 hg w1 hbox hb; have B := Aside0.mk hb; have X1 := Aside0.mk hbox; have yp0 : w1.cell? ⟨g1, 0, none⟩ = some (.int .i64 s.f0) := blk_cell hbox 0; have yp1 : w1.cell? ⟨g1, 1, none⟩ = some (.int .i64 s.f1) := blk_cell hbox 1; have yp2 : w1.cell? ⟨g1, 2, none⟩ = some (.int .i64 s.f2) := blk_cell hbox 2; have yp3 : w1.cell? ⟨g1, 3, none⟩ = some (.int .i64 s.f3.f0) := blk_cell hbox 3; have yp4 : w1.cell? ⟨g1, 4, none⟩ = some (.int .i64 s.f3.f1) := blk_cell hbox 4; have yp5 : w1.cell? ⟨g1, 5, none⟩ = some (.slice A5 s.f3.f2.length c5) := blk_cell hbox 5; have yp6 : w1.cell? ⟨g1, 6, none⟩ = some (.slice A6 s.f4.length c6) := blk_cell hbox 6; have yp7 : w1.cell? ⟨g1, 7, none⟩ = some (.slice A7 s.f5.length c7) := blk_cell hbox 7; clear hb hbox hg) | ((with_reducible refine (ih k (by omega) A6 c6 s.f4 false _ (Kd.C_below H6.out B.out) L6.out HB1.out).mono ?_); rintro e w2 ⟨rfl, hb⟩; have b_ := Aside0.mk (below_step B.out hb); have x_ := Aside0.mk (blk_below X1.out hb); clear B X1 yp0 yp1 yp2 yp3 yp4 yp5 yp6 yp7; have B := b_; have X1 := x_; have yp0 : w2.cell? ⟨g1, 0, none⟩ = some (.int .i64 s.f0) := blk_cell X1.out 0; have yp1 : w2.cell? ⟨g1, 1, none⟩ = some (.int .i64 s.f1) := blk_cell X1.out 1; have yp2 : w2.cell? ⟨g1, 2, none⟩ = some (.int .i64 s.f2) := blk_cell X1.out 2; have yp3 : w2.cell? ⟨g1, 3, none⟩ = some (.int .i64 s.f3.f0) := blk_cell X1.out 3; have yp4 : w2.cell? ⟨g1, 4, none⟩ = some (.int .i64 s.f3.f1) := blk_cell X1.out 4; have yp5 : w2.cell? ⟨g1, 5, none⟩ = some (.slice A5 s.f3.f2.length c5) := blk_cell X1.out 5; have yp6 : w2.cell? ⟨g1, 6, none⟩ = some (.slice A6 s.f4.length c6) := blk_cell X1.out 6; have yp7 : w2.cell? ⟨g1, 7, none⟩ = some (.slice A7 s.f5.length c7) := blk_cell X1.out 7; clear b_ x_ hb; (try dsimp only)) | ((with_reducible refine (ih k (by omega) A7 c7 s.f5 r _ (Kd.C_below H7.out B.out) L7.out HB2.out).mono ?_); rintro e w3 ⟨rfl, hb⟩; have b_ := Aside0.mk (below_step B.out hb); have x_ := Aside0.mk (blk_below X1.out hb); clear B X1 yp0 yp1 yp2 yp3 yp4 yp5 yp6 yp7; have B := b_; have X1 := x_; have yp0 : w3.cell? ⟨g1, 0, none⟩ = some (.int .i64 s.f0) := blk_cell X1.out 0; have yp1 : w3.cell? ⟨g1, 1, none⟩ = some (.int .i64 s.f1) := blk_cell X1.out 1; have yp2 : w3.cell? ⟨g1, 2, none⟩ = some (.int .i64 s.f2) := blk_cell X1.out 2; have yp3 : w3.cell? ⟨g1, 3, none⟩ = some (.int .i64 s.f3.f0) := blk_cell X1.out 3; have yp4 : w3.cell? ⟨g1, 4, none⟩ = some (.int .i64 s.f3.f1) := blk_cell X1.out 4; have yp5 : w3.cell? ⟨g1, 5, none⟩ = some (.slice A5 s.f3.f2.length c5) := blk_cell X1.out 5; have yp6 : w3.cell? ⟨g1, 6, none⟩ = some (.slice A6 s.f4.length c6) := blk_cell X1.out 6; have yp7 : w3.cell? ⟨g1, 7, none⟩ = some (.slice A7 s.f5.length c7) := blk_cell X1.out 7; clear b_ x_ hb; (try dsimp only)) | fail)
      go_ret
      exact ⟨rfl, B.out⟩
set_option maxHeartbeats 8000000 in
set_option maxRecDepth 100000 in
theorem hl_ix.step (k : Nat) (ih : ∀ m, m < k → hl_one m) : hl_ix k := by
  intro A c l r w hr hc h
  have HR := Aside0.mk hr
  have HC := Aside0.mk hc
  have H' := Aside0.mk h
  clear hr hc h
  go_enter Try.func66, Try.ntmps66
  go_wp2
  go_loopg [8] k (fun kq v8 w' => ∃ (i : Int), v8 = .int .i64 i ∧ Aside0 (impl_hasLoop.l0 kq l i = some r) ∧ Aside0 (kq ≤ k) ∧ Aside0 (Below w.heap.size w w'))
  case atStart => exact ⟨0, rfl, H', ⟨Nat.le_refl _⟩, ⟨Below.refl _ _⟩⟩
  case round =>
    clear H'
    obtain ⟨i, rfl, HA, HK1, HB⟩ := hrel
    cases gk with
    | zero => exact absurd HA.out (by simp [impl_hasLoop.l0])
    | succ k1 =>
      have H := HA.out
      clear HA
      simp only [impl_hasLoop.l0] at H
      by_cases c6 : i < (l.length : Int)
      · rw [if_pos c6] at H
        by_cases c7 : 0 ≤ i
        · rw [if_pos c7] at H
          replace H := Option.bind_eq_some_iff.mp H
          obtain ⟨b, hb, H⟩ := H
          have HS := Aside0.mk hb
          clear hb
          obtain ⟨ad, A5, c5, A6, d6, A7, d7, e0, x0, x1, x2, y3, y4, y5, y6, y7, l5, g5, l6, g6, l7, g7⟩ := at_T37 HR.out i c7 c6
          cases e0
          replace x0 := (HB.out.cell (World.block_lt_of_cell? w _ x0)).trans x0
          replace x1 := (HB.out.cell (World.block_lt_of_cell? w _ x1)).trans x1
          replace x2 := (HB.out.cell (World.block_lt_of_cell? w _ x2)).trans x2
          replace y3 := (HB.out.cell (World.block_lt_of_cell? w _ y3)).trans y3
          replace y4 := (HB.out.cell (World.block_lt_of_cell? w _ y4)).trans y4
          replace y5 := (HB.out.cell (World.block_lt_of_cell? w _ y5)).trans y5
          replace y6 := (HB.out.cell (World.block_lt_of_cell? w _ y6)).trans y6
          replace y7 := (HB.out.cell (World.block_lt_of_cell? w _ y7)).trans y7
          have G6 := Aside0.mk (Kd.C_below g6 HB.out)
          have G7 := Aside0.mk (Kd.C_below g7 HB.out)
          have L6 := Aside0.mk l6
          have L7 := Aside0.mk l7
          have C7 := Aside0.mk c7
          have c6b : decide (i < (l.length : Int)) = true := decide_eq_true c6
          have q0 := eq_true c7
          have q1 := eq_true c6
          clear g5 g6 g7 l5 l6 l7 c6 c7
          cases b with
          | true =>
            rw [if_pos rfl] at H
            obtain rfl := Option.some.inj H
            go_wp2_with (first | ((with_reducible refine (ih k1 (by have := HK1.out; omega) (rd_T37 l i) A5 c5 A6 d6 A7 d7 _ _ G6.out L6.out G7.out L7.out HS.out).mono ?_); rintro e w1 ⟨rfl, hb⟩; have HB2 := Aside0.mk (below_step HB.out hb); clear hb; (try dsimp only)) | fail)
            go_ret
            exact ⟨_, rfl, by first | exact C7.out | exact decide_eq_true C7.out, HB2.out⟩
          | false =>
            rw [if_neg Bool.false_ne_true] at H
            have H' := Aside0.mk H
            clear H
            go_wp2_with (first | ((with_reducible refine (ih k1 (by have := HK1.out; omega) (rd_T37 l i) A5 c5 A6 d6 A7 d7 _ _ G6.out L6.out G7.out L7.out HS.out).mono ?_); rintro e w1 ⟨rfl, hb⟩; have HB2 := Aside0.mk (below_step HB.out hb); clear hb; (try dsimp only)) | fail)
            go_roundg k1
            case measure => have := HK1.out; omega
            case rel => exact ⟨wrap64 (i + 1), (by first | rfl | (simp; done) | (simp [*]; done)), H', ⟨by have := HK1.out; omega⟩, HB2⟩
        · rw [if_neg c7] at H
          exact absurd H (by simp)
      · rw [if_neg c6] at H
        have c6b : decide (i < (l.length : Int)) = false := decide_eq_false c6
        clear c6
        obtain rfl := Option.some.inj H
        go_wp2
        go_ret
        exact ⟨-1, rfl, by first | rfl | omega | decide, HB.out⟩
set_option maxHeartbeats 8000000 in
set_option maxRecDepth 100000 in
theorem hl_f.step (k : Nat) (ih : ∀ m, m < k → hl_ix m) : hl_f k := by
  intro A c l r w hr hc h
  cases k with
  | zero => exact absurd h (by simp [impl_hasLoop.f])
  | succ k =>
  simp only [impl_hasLoop.f] at h
  have HR := Aside0.mk hr
  have HC := Aside0.mk hc
  have H' := Aside0.mk h
  clear hr hc h
  have cont : Calls Try.prog 55 #[.slice A l.length c, (.func (.func 56) #[] #[])] w fun e w' => e = .returned (.bool r) ∧ Below w.heap.size w w' := by
    go_enter Try.func55, Try.ntmps55
    go_wp2_with (first | ((with_reducible refine (ih k (by omega) A c l r _ HR.out HC.out H'.out).mono ?_); rintro e w1 ⟨n, rfl, hn, hb⟩; have HN := Aside0.mk hn; have HB := Aside0.mk hb; clear hn hb; (try dsimp only)) | fail)
    go_ret
    exact ⟨by first | (rw [← HN.out]; done) | (rw [← HN.out]; rfl) | simp [← HN.out], HB.out⟩
  have HC2 := Aside0.mk cont
  clear cont
  go_enter Try.func41, Try.ntmps41
  go_wp2_with (first | ((with_reducible refine HC2.out.mono ?_); rintro e w1 ⟨rfl, hb⟩; have HB := Aside0.mk hb; clear hb; (try dsimp only)) | fail)
  go_ret
  exact ⟨rfl, HB.out⟩
theorem hl_all (k : Nat) : hl_f k ∧ hl_one k ∧ hl_ix k := by
  induction k using Nat.strongRecOn with
  | _ k ih => exact ⟨hl_f.step k (fun m hm => (ih m hm).2.2), hl_one.step k (fun m hm => (ih m hm).1), hl_ix.step k (fun m hm => (ih m hm).2.1)⟩
set_option maxHeartbeats 8000000 in
set_option maxRecDepth 100000 in
theorem any_ix (k : Nat) (A : Option Addr) (c : Nat) (l : List (List S37)) (r : Bool) (w : World) (hr : Kd.C (Kd.slice 37 k37) w A l.length l) (hc : l.length ≤ c) (h : impl_anyLoop.l0 k l 0 = some r) :
    Calls Try.prog 54 #[.slice A l.length c, (.func (.func 41) #[] #[])] w fun e w' => ∃ n : Int, e = .returned (.int .i64 n) ∧ decide (0 ≤ n) = r ∧ Below w.heap.size w w' := by
  have HR := Aside0.mk hr
  have HC := Aside0.mk hc
  have H' := Aside0.mk h
  clear hr hc h
  go_enter Try.func54, Try.ntmps54
  go_wp2
  go_loopg [8] k (fun kq v8 w' => ∃ (i : Int), v8 = .int .i64 i ∧ Aside0 (impl_anyLoop.l0 kq l i = some r) ∧ Aside0 (kq ≤ k) ∧ Aside0 (Below w.heap.size w w'))
  case atStart => exact ⟨0, rfl, H', ⟨Nat.le_refl _⟩, ⟨Below.refl _ _⟩⟩
  case round =>
    clear H'
    obtain ⟨i, rfl, HA, HK1, HB⟩ := hrel
    cases gk with
    | zero => exact absurd HA.out (by simp [impl_anyLoop.l0])
    | succ k1 =>
      have H := HA.out
      clear HA
      simp only [impl_anyLoop.l0] at H
      by_cases c6 : i < (l.length : Int)
      · rw [if_pos c6] at H
        by_cases c7 : 0 ≤ i
        · rw [if_pos c7] at H
          replace H := Option.bind_eq_some_iff.mp H
          obtain ⟨b, hb, H⟩ := H
          have HS := Aside0.mk hb
          clear hb
          obtain ⟨ad, A6, d6, e0, x0, l6, g6⟩ := at_L3 HR.out i c7 c6
          cases e0
          replace x0 := (HB.out.cell (World.block_lt_of_cell? w _ x0)).trans x0
          have G6 := Aside0.mk (Kd.C_below g6 HB.out)
          have L6 := Aside0.mk l6
          have C7 := Aside0.mk c7
          have c6b : decide (i < (l.length : Int)) = true := decide_eq_true c6
          have q0 := eq_true c7
          have q1 := eq_true c6
          clear g6 l6 c6 c7
          cases b with
          | true =>
            rw [if_pos rfl] at H
            obtain rfl := Option.some.inj H
            go_wp2_with (first | ((with_reducible refine ((hl_all k1).1 A6 d6 (rd_L3 l i) _ _ G6.out L6.out HS.out).mono ?_); rintro e w1 ⟨rfl, hb⟩; have HB2 := Aside0.mk (below_step HB.out hb); clear hb; (try dsimp only)) | fail)
            go_ret
            exact ⟨_, rfl, by first | exact C7.out | exact decide_eq_true C7.out, HB2.out⟩
          | false =>
            rw [if_neg Bool.false_ne_true] at H
            have H' := Aside0.mk H
            clear H
            go_wp2_with (first | ((with_reducible refine ((hl_all k1).1 A6 d6 (rd_L3 l i) _ _ G6.out L6.out HS.out).mono ?_); rintro e w1 ⟨rfl, hb⟩; have HB2 := Aside0.mk (below_step HB.out hb); clear hb; (try dsimp only)) | fail)
            go_roundg k1
            case measure => have := HK1.out; omega
            case rel => exact ⟨wrap64 (i + 1), (by first | rfl | (simp; done) | (simp [*]; done)), H', ⟨by have := HK1.out; omega⟩, HB2⟩
        · rw [if_neg c7] at H
          exact absurd H (by simp)
      · rw [if_neg c6] at H
        have c6b : decide (i < (l.length : Int)) = false := decide_eq_false c6
        clear c6
        obtain rfl := Option.some.inj H
        go_wp2
        go_ret
        exact ⟨-1, rfl, by first | rfl | omega | decide, HB.out⟩
set_option maxHeartbeats 8000000 in
set_option maxRecDepth 100000 in
theorem any_cont (k : Nat) (A : Option Addr) (c : Nat) (l : List (List S37)) (r : Bool) (w : World) (hr : Kd.C (Kd.slice 37 k37) w A l.length l) (hc : l.length ≤ c) (h : impl_anyLoop.l0 k l 0 = some r) :
    Calls Try.prog 40 #[.slice A l.length c, (.func (.func 41) #[] #[])] w fun e w' => e = .returned (.bool r) ∧ Below w.heap.size w w' := by
  have HR := Aside0.mk hr
  have HC := Aside0.mk hc
  have H' := Aside0.mk h
  clear hr hc h
  go_enter Try.func40, Try.ntmps40
  go_wp2_with (first | ((with_reducible refine (any_ix k A c l r _ HR.out HC.out H'.out).mono ?_); rintro e w1 ⟨n, rfl, hn, hb⟩; have HN := Aside0.mk hn; have HB := Aside0.mk hb; clear hn hb; (try dsimp only)) | fail)
  go_ret
  exact ⟨by first | (rw [← HN.out]; done) | (rw [← HN.out]; rfl) | simp [← HN.out], HB.out⟩

end Go.Proofs.Ytpcbfcaacilghaa.PA

/- Part 5. -/
import Derived.Test.YtjamfkpgmkhbnaaGreatDoorQFnExactProgramText3
import Derived.Laws.BitsLemmas
set_option maxHeartbeats 8000000
set_option maxRecDepth 100000
namespace Go.Proofs.YtjamfkpgmkhbnaaGreatDoor.PA
open Go.RowKit Go.Proofs.YtjamfkpgmkhbnaaGreatDoorW.PrintWords Go.Proofs.YtjamfkpgmkhbnaaGreatDoorW.PrintLast Go.Proofs.YtjamfkpgmkhbnaaGreatDoorW.PrintMore
attribute [local go_sem] max2_int min2_int max_two min_two max_three min_three max_four min_four
set_option linter.unusedVariables false
set_option linter.unusedSimpArgs false
theorem laws_szStmtSS.mono_l : ∀ k, (∀ y0 y1 y2, LeO (laws_szStmtSS.l0 k y0 y1 y2) (laws_szStmtSS.l0 (k + 1) y0 y1 y2))
 | 0 => fun _ _ _ r h => by simp [laws_szStmtSS.l0] at h
 | k + 1 => by
  have ih0 := laws_szStmtSS.mono_l k
  ·intro y0 y1 y2
   unfold laws_szStmtSS.l0
   have m0 := @laws_szStmtS.mono
   exact mo_
theorem laws_szStmtSS.mono : ∀ a0 a1 k, LeO (laws_szStmtSS.f k a0 a1) (laws_szStmtSS.f (k + 1) a0 a1) := by
 intro a0 a1 k
 have ih0 := laws_szStmtSS.mono_l k
 unfold laws_szStmtSS.f
 have m0 := @laws_szStmtS.mono
 exact mo_
theorem laws_szStmtSS.calls (k : Nat) (A0 : Option Addr) (c0 : Nat) (l0 : List (List (S113))) (a1 : Int) (r : Int) (w : World) (hr0 : Kd.C (Kd.slice 113 k113) w A0 l0.length l0) (hc0 : l0.length ≤ c0) (h : laws_szStmtSS.f k l0 a1 = some r) :
  Calls Tryz.prog 29 #[.slice A0 l0.length c0, .int .i64 a1] w fun e w' => e = .returned (.int .i64 r) ∧ Below w.heap.size w w' := by
 have HR0 := am hr0
 have HC0 := am hc0
 clear hr0 hc0
 have HB := am (Below.refl w.heap.size w)
 have H : (if (wrap64 (a1 - (l0.length : Int))) < 0 then (some (-1)) else (laws_szStmtSS.l0 k l0 (wrap64 (a1 - (l0.length : Int))) 0)) = some r := h
 clear h
 by_cases c3 : (wrap64 (a1 - (l0.length : Int))) < 0
 ·rw [if_pos c3] at H
  have c3b0 : decide ((wrap64 (a1 - (l0.length : Int))) < 0) = true := decide_eq_true c3
  clear c3
  obtain rfl := Option.some.inj H
  go_enter Tryz.func29, Tryz.ntmps29
  go_wp2
  go_ret
  exact ⟨rr_, ab2_⟩
 rw [if_neg c3] at H
 have c3b0 : decide ((wrap64 (a1 - (l0.length : Int))) < 0) = false := decide_eq_false c3
 clear c3
 have H' := am H
 clear H
 go_enter Tryz.func29, Tryz.ntmps29
 go_wp2
 go_loopg [1, 5] k (fun kq v1 v5 w' => ∃ (x1_1 : Int) (x5_1 : Int), v1 = .int .i64 x1_1 ∧ v5 = .int .i64 x5_1 ∧ Aside0 (laws_szStmtSS.l0 kq l0 x1_1 x5_1 = some r) ∧ Aside0 (kq ≤ k) ∧ Aside0 (Below w.heap.size w w'))
 case atStart => exact ⟨(wrap64 (a1 - (l0.length : Int))), (0), sd_, sd_, H', ⟨Nat.le_refl _⟩, ⟨ab2_⟩⟩
 case round =>
  clear H'
  try clear c3
  try clear c3b0
  obtain ⟨x1_1, x5_1, rfl, rfl, HA, HK1, HB⟩ := hrel
  cases gk with
  | zero => exact absurd HA.out (by simp [laws_szStmtSS.l0])
  | succ k1 =>
   have H := HA.out
   clear HA
   simp only [laws_szStmtSS.l0] at H
   by_cases c4 : x5_1 < (l0.length : Int)
   ·rw [if_pos c4] at H
    have c4b0 : decide (x5_1 < (l0.length : Int)) = true := decide_eq_true c4
    clear c4
    by_cases c5 : 0 ≤ x5_1
    ·rw [if_pos c5] at H
     have c5b0 : decide (0 ≤ x5_1) = true := decide_eq_true c5
     clear c5
     obtain ⟨t20, A6, H⟩ := bsa H
     (try dsimp only at H)
     by_cases c7 : t20 < 0
     ·rw [if_pos c7] at H
      have c7b0 : decide (t20 < 0) = true := decide_eq_true c7
      clear c7
      obtain rfl := Option.some.inj H
      have p21 : 0 ≤ (x5_1 : Int) := of_decide_eq_true asm_
      have q21 : x5_1 < (l0.length : Int) := of_decide_eq_true asm_
      obtain ⟨ad21, A21_0, c21_0, e21, hx21_0, hl21_0, hi21_0⟩ := at_L8 HR0.out x5_1 p21 q21
      cases e21
      replace hx21_0 := (HB.out.cell (World.block_lt_of_cell? w _ hx21_0)).trans hx21_0
      have HR21_0 := am hi21_0
      have HC21_0 := am hl21_0
      clear hi21_0 hl21_0
      replace p21 := eq_true p21
      replace q21 := eq_true q21
      go_wp2_with (first | ((with_reducible refine gate_callee (f := 55) rfl ?_); refine gl_ 23 Tryz.func55 #[.slice A21_0 (rd_L8 l0 x5_1).length c21_0, .int .i64 x1_1] ?_; (with_reducible refine (laws_szStmtS.calls k1 _ _ (rd_L8 l0 x5_1) x1_1 t20 _ (aC_ (Kd.C_below HR21_0.out HB.out)) HC21_0.out A6.out).mono ?_); rintro e w8 ⟨rfl, hb⟩; refine ⟨_, rfl, ?_⟩; replace HB := am (below_step ab2_ hb); (try clear hb)))
      go_ret
      exact ⟨rr_, ab2_⟩
     rw [if_neg c7] at H
     have c7b0 : decide (t20 < 0) = false := decide_eq_false c7
     clear c7
     have H' := am H
     clear H
     have p21 : 0 ≤ (x5_1 : Int) := of_decide_eq_true asm_
     have q21 : x5_1 < (l0.length : Int) := of_decide_eq_true asm_
     obtain ⟨ad21, A21_0, c21_0, e21, hx21_0, hl21_0, hi21_0⟩ := at_L8 HR0.out x5_1 p21 q21
     cases e21
     replace hx21_0 := (HB.out.cell (World.block_lt_of_cell? w _ hx21_0)).trans hx21_0
     have HR21_0 := am hi21_0
     have HC21_0 := am hl21_0
     clear hi21_0 hl21_0
     replace p21 := eq_true p21
     replace q21 := eq_true q21
     go_wp2_with (first | ((with_reducible refine gate_callee (f := 55) rfl ?_); refine gl_ 23 Tryz.func55 #[.slice A21_0 (rd_L8 l0 x5_1).length c21_0, .int .i64 x1_1] ?_; (with_reducible refine (laws_szStmtS.calls k1 _ _ (rd_L8 l0 x5_1) x1_1 t20 _ (aC_ (Kd.C_below HR21_0.out HB.out)) HC21_0.out A6.out).mono ?_); rintro e w9 ⟨rfl, hb⟩; refine ⟨_, rfl, ?_⟩; replace HB := am (below_step ab2_ hb); (try clear hb)))
     go_roundg k1
     case measure => have := HK1.out; omega
     case rel => exact ⟨(t20), (wrap64 (x5_1 + 1)), sd_, sd_, H', ⟨by have := HK1.out; omega⟩, ⟨ab2_⟩⟩
    rw [if_neg c5] at H
    exact absurd H (by simp)
   rw [if_neg c4] at H
   have c4b0 : decide (x5_1 < (l0.length : Int)) = false := decide_eq_false c4
   clear c4
   obtain rfl := Option.some.inj H
   go_wp2
   go_ret
   exact ⟨rr_, ab2_⟩
theorem laws_szProgram.mono : ∀ a0 a1 a2 k, LeO (laws_szProgram.f k a0 a1 a2) (laws_szProgram.f (k + 1) a0 a1 a2) := by
 intro a0 a1 a2 k
 unfold laws_szProgram.f
 have m0 := @laws_szStmtSS.mono
 exact mo_
theorem laws_szProgram.calls (k : Nat) (A0_0 : Option Addr) (c0_0 : Nat) (l0_0 : List Int) (A0_1 : Option Addr) (c0_1 : Nat) (l0_1 : List (List (S113))) (a1 : Int) (r : Int) (w : World) (hr0_0 : Kd.C (Kd.int .i64) w A0_0 l0_0.length l0_0) (hc0_0 : l0_0.length ≤ c0_0) (hr0_1 : Kd.C (Kd.slice 113 k113) w A0_1 l0_1.length l0_1) (hc0_1 : l0_1.length ≤ c0_1) (h : laws_szProgram.f k l0_0 l0_1 a1 = some r) :
  Calls Tryz.prog 13 #[.agg #[.slice A0_0 l0_0.length c0_0, .slice A0_1 l0_1.length c0_1], .int .i64 a1] w fun e w' => e = .returned (.int .i64 r) ∧ Below w.heap.size w w' := by
 have hu38 := Tryz.underlying38
 have HR0_0 := am hr0_0
 have HC0_0 := am hc0_0
 clear hr0_0 hc0_0
 have HR0_1 := am hr0_1
 have HC0_1 := am hc0_1
 clear hr0_1 hc0_1
 have HB := am (Below.refl w.heap.size w)
 have H : ((laws_szIntS.f l0_0 a1).bind fun t20 => (if t20 < 0 then (some (-1)) else ((laws_szStmtSS.f k l0_1 t20).bind fun t21 => (if t21 < 0 then (some (-1)) else (some t21))))) = some r := h
 clear h
 obtain ⟨t20, A3, H⟩ := bsa H
 (try dsimp only at H)
 have HH_ := am H
 clear H
 go_enter Tryz.func13, Tryz.ntmps13
 go_upto_region 2 with (first | ((with_reducible refine gate_dst (N := 2) rfl ?_); refine box_event rfl (N := 2) rfl (cs := #[.slice A0_0 l0_0.length c0_0, .slice A0_1 l0_1.length c0_1]) (t := 38) rn_ ?_; intro gb22 hg w5 hbox hb; have BK22 := am (hbox); have GW22 := am ((by rw [hg]; exact (below_size ab2_) : w.heap.size ≤ gb22)); have GE22 := am ((by rw [hg]; exact (below_size ab2_) : w.heap.size ≤ gb22)); replace HB := am (below_step ab2_ hb); clear hb hbox hg; obtain ⟨hcz6_0, hcz6_1, hfz6_0, hfz6_1⟩ := bcf2_ BK22.out) | ((with_reducible refine gate_callee (f := 28) rfl ?_); refine gl_ 8 Tryz.func28 #[.slice A0_0 l0_0.length c0_0, .int .i64 a1] ?_; (with_reducible refine (laws_szIntS.calls _ _ l0_0 a1 t20 _ (aC_ (Kd.C_below HR0_0.out HB.out)) HC0_0.out A3.out).mono ?_); rintro e w' ⟨rfl, ⟨nd, rfl⟩⟩; refine ⟨_, rfl, ?_⟩))
 have H := HH_.out
 clear HH_
 by_cases c4 : t20 < 0
 ·rw [if_pos c4] at H
  have c4b0 : decide (t20 < 0) = true := decide_eq_true c4
  clear c4
  obtain rfl := Option.some.inj H
  go_wp2
  go_ret
  exact ⟨rr_, ab30_⟩
 rw [if_neg c4] at H
 have c4b0 : decide (t20 < 0) = false := decide_eq_false c4
 clear c4
 obtain ⟨t21, A7, H⟩ := bsa H
 (try dsimp only at H)
 by_cases c8 : t21 < 0
 ·rw [if_pos c8] at H
  have c8b0 : decide (t21 < 0) = true := decide_eq_true c8
  clear c8
  obtain rfl := Option.some.inj H
  go_wp2_with (first | ((with_reducible refine gate_callee (f := 29) rfl ?_); refine gl_ 14 Tryz.func29 #[.slice A0_1 l0_1.length c0_1, .int .i64 t20] ?_; (with_reducible refine (laws_szStmtSS.calls k _ _ l0_1 t20 t21 _ (aC_ (Kd.C_below HR0_1.out ab30_)) HC0_1.out A7.out).mono ?_); rintro e w11 ⟨rfl, hb⟩; refine ⟨_, rfl, ?_⟩; replace BK22 := am (bbl_ BK22.out hb); replace HB := am (below_step ab30_ hb); (try clear hb)))
  go_ret
  exact ⟨rr_, ab30_⟩
 rw [if_neg c8] at H
 have c8b0 : decide (t21 < 0) = false := decide_eq_false c8
 clear c8
 obtain rfl := Option.some.inj H
 go_wp2_with (first | ((with_reducible refine gate_callee (f := 29) rfl ?_); refine gl_ 14 Tryz.func29 #[.slice A0_1 l0_1.length c0_1, .int .i64 t20] ?_; (with_reducible refine (laws_szStmtSS.calls k _ _ l0_1 t20 t21 _ (aC_ (Kd.C_below HR0_1.out ab30_)) HC0_1.out A7.out).mono ?_); rintro e w14 ⟨rfl, hb⟩; refine ⟨_, rfl, ?_⟩; replace BK22 := am (bbl_ BK22.out hb); replace HB := am (below_step ab30_ hb); (try clear hb)))
 go_ret
 exact ⟨rr_, ab30_⟩
theorem laws_toIntS.mono_l : ∀ k, (∀ y0 y1 y2, LeO (laws_toIntS.l0 k y0 y1 y2) (laws_toIntS.l0 (k + 1) y0 y1 y2))
 | 0 => fun _ _ _ r h => by simp [laws_toIntS.l0] at h
 | k + 1 => by
  have ih0 := laws_toIntS.mono_l k
  ·intro y0 y1 y2
   unfold laws_toIntS.l0
   exact mo_
theorem laws_toIntS.mono : ∀ a0 k, LeO (laws_toIntS.f k a0) (laws_toIntS.f (k + 1) a0) := by
 intro a0 k
 have ih0 := laws_toIntS.mono_l k
 unfold laws_toIntS.f
 exact mo_
theorem laws_toIntS.calls (k : Nat) (A0 : Option Addr) (c0 : Nat) (l0 : List Int) (r : List Int) (w : World) (hr0 : Kd.C (Kd.int .i64) w A0 l0.length l0) (hc0 : l0.length ≤ c0) (h : laws_toIntS.f k l0 = some r) :
  Calls Tryz.prog 30 #[.slice A0 l0.length c0] w fun e w' => ∃ v0_ : Value, e = .returned (v0_) ∧ Kd.R (Kd.int .i64) 3 w' w.heap.size (fun _ => True) v0_ r ∧ Below w.heap.size w w' := by
 have HR0 := am hr0
 have HC0 := am hc0
 clear hr0 hc0
 have HB := am (Below.refl w.heap.size w)
 have H : (if 0 ≤ (l0.length : Int) then (if ((l0.length : Int) : Int).toNat ≤ 35184372088832 then (laws_toIntS.l0 k l0 (List.replicate ((l0.length : Int) : Int).toNat 0) 0) else (none)) else (none)) = some r := h
 clear h
 by_cases c2 : 0 ≤ (l0.length : Int)
 ·rw [if_pos c2] at H
  have c2b0 := eq_true c2
  have c2b1 : decide (0 ≤ (l0.length : Int)) = true := decide_eq_true c2
  clear c2
  by_cases c3 : ((l0.length : Int) : Int).toNat ≤ 35184372088832
  ·rw [if_pos c3] at H
   have c3b0 := eq_true c3
   have c3b1 : decide (((l0.length : Int) : Int).toNat ≤ 35184372088832) = true := decide_eq_true c3
   clear c3
   obtain ⟨y21, hy_⟩ : ∃ y_ : List Int, y_ = (List.replicate ((l0.length : Int) : Int).toNat 0) := ⟨_, rfl⟩
   replace H : (laws_toIntS.l0 k l0 y21 0) = some r := rx_
   have Ny21 := am hy_
   clear hy_
   have H' := am H
   clear H
   go_enter Tryz.func30, Tryz.ntmps30
   go_wp2_with (first | ((with_reducible refine gate_dst (N := 7) rfl ?_); refine Kd.R_make (Kd.int .i64) _ 3 rfl (N := 7) rfl 23 _ _ rfl (l0.length : Int) rfl rfl Tryz.underlying23 (.int .i64 0) 8 info3 rfl (by decide) (by omega) 0 (ok := fun _ => True) (okp := fun _ => True) rfl (fun _ hk => hk) trivial (of_decide_eq_true asm_) (Nat.le_trans (Nat.mul_le_mul_right _ (of_decide_eq_true asm_ : (l0.length : Int).toNat ≤ 35184372088832)) (by omega)) (Below.refl _ _) (Nat.le_refl _) ?_; intro v22 w4 ho5 hb hg_ hnew_; clear hg_ hnew_; (first | rw [← Ny21.out] at ho5 | (simp only [Int.reduceToNat] at ho5; rw [← Ny21.out] at ho5)); have HO24 := am (Kd.R_lower ho5 (below_size ab2_)); replace HB := am (below_step ab2_ hb); clear hb ho5))
   go_loopg [4] k (fun kq v4 w' => ∃ (x3_1 : List Int) (x4_1 : Int), v4 = .int .i64 x4_1 ∧ Aside0 (laws_toIntS.l0 kq l0 x3_1 x4_1 = some r) ∧ Aside0 (kq ≤ k) ∧ Aside0 (Kd.R (Kd.int .i64) 3 w' w.heap.size (fun _ => True) v22 x3_1) ∧ Aside0 (Below w.heap.size w w'))
   case atStart => exact ⟨(y21), (0), sd_, H', ⟨Nat.le_refl _⟩, ⟨aRw_ HO24.out⟩, ⟨ab2_⟩⟩
   case round =>
    clear H'
    try clear c2
    try clear c2b0
    try clear c2b1
    try clear c3
    try clear c3b0
    try clear c3b1
    obtain ⟨x3_1, x4_1, rfl, HA, HK1, HO_3, HB⟩ := hrel
    cases gk with
    | zero => exact absurd HA.out (by simp [laws_toIntS.l0])
    | succ k1 =>
     have H := HA.out
     clear HA
     simp only [laws_toIntS.l0] at H
     by_cases c6 : x4_1 < (l0.length : Int)
     ·rw [if_pos c6] at H
      have c6b0 : decide (x4_1 < (l0.length : Int)) = true := decide_eq_true c6
      clear c6
      by_cases c7 : 0 ≤ x4_1
      ·rw [if_pos c7] at H
       have c7b0 : decide (0 ≤ x4_1) = true := decide_eq_true c7
       clear c7
       by_cases c8 : x4_1 < (x3_1.length : Int)
       ·rw [if_pos c8] at H
        have c8b0 : decide (x4_1 < (x3_1.length : Int)) = true := decide_eq_true c8
        clear c8
        obtain ⟨y25, hy_⟩ : ∃ y_ : List Int, y_ = (x3_1.set (x4_1 : Int).toNat (rd l0 x4_1)) := ⟨_, rfl⟩
        replace H : (laws_toIntS.l0 k1 l0 y25 (wrap64 (x4_1 + 1))) = some r := rx_
        have Ny25 := am hy_
        clear hy_
        have H' := am H
        clear H
        have p26 : 0 ≤ (x4_1 : Int) := of_decide_eq_true asm_
        have q26 : x4_1 < (l0.length : Int) := of_decide_eq_true asm_
        obtain ⟨ad26, e26, hx26_0⟩ := Kd.at_int HR0.out x4_1 p26 q26
        cases e26
        replace hx26_0 := (HB.out.cell (World.block_lt_of_cell? w _ hx26_0)).trans hx26_0
        replace p26 := eq_true p26
        replace q26 := eq_true q26
        have p9 : 0 ≤ (x4_1 : Int) := of_decide_eq_true asm_
        have q9 : (x4_1 : Int) < ((x3_1.length : Int) : Int) := of_decide_eq_true asm_
        obtain ⟨go9, co9, eo9, gb9, gl9, cl9, HG9⟩ := Kd.R_form HO_3.out (by omega)
        (first | cases eo9 | (injection eo9 with ea_ en_ ec_; (first | subst ea_ | (injection ea_ with ea_; subst ea_)); subst ec_; clear en_))
        have GB9 := am gb9
        have GG9 := am HG9
        clear gb9 gl9 HG9
        obtain ⟨hx9_0, hf9_0⟩ := Kd.R_celln 0 HO_3.out (x4_1 : Int) p9 q9
        replace p9 := eq_true p9
        replace q9 := eq_true q9
        have HP10 := Kd.R_putg HO_3.out (x4_1 : Int) (rd l0 x4_1)
        go_wp2_with (first | ((with_reducible refine gate_store (t := 3) (p := 20) rfl ?_); refine store_event (t := 3) (p := 20) (v := ?vo_w11) (w1 := (wr.setCell ⟨go9, (x4_1 : Int).toNat, none⟩ (.int .i64 (rd l0 x4_1)))) ?hg ?ho ?hn ?hr ?_; (case ho => rfl); (case hg => rfl); (case hn => rfl); (case hr => first | (go_simp; done) | (go_simp; rfl)); intro w11 hw; have hg : wr.grownBy w11 (some go9) := (by rw [hw]; exact HP10.2); have hp_ : Kd.R (Kd.int .i64) 3 w11 w.heap.size (fun _ => True) (.slice (some ⟨go9, 0, none⟩) x3_1.length co9) y25 := (by rw [hw, Ny25.out]; exact HP10.1); clear HP10; replace HO_3 := am (hp_); replace HB := am ((by rw [hw]; exact below_set (HB.out) GB9.out : Below w.heap.size w w11)); clear hg hw hp_))
        go_roundg k1
        case measure => have := HK1.out; omega
        case rel => exact ⟨(y25), (wrap64 (x4_1 + 1)), sd_, H', ⟨by have := HK1.out; omega⟩, ⟨aRw_ HO_3.out⟩, ⟨ab2_⟩⟩
       rw [if_neg c8] at H
       exact absurd H (by simp)
      rw [if_neg c7] at H
      exact absurd H (by simp)
     rw [if_neg c6] at H
     have c6b0 : decide (x4_1 < (l0.length : Int)) = false := decide_eq_false c6
     clear c6
     obtain rfl := Option.some.inj H
     go_wp2
     go_ret
     exact ⟨_, ab13_, aRw_ HO_3.out, ab2_⟩
  rw [if_neg c3] at H
  exact absurd H (by simp)
 rw [if_neg c2] at H
 exact absurd H (by simp)
theorem laws_toExprS.mono_all : ∀ k, (∀ y0, LeO (laws_toExprS.f k y0) (laws_toExprS.f (k + 1) y0)) ∧ (∀ y0 y1 y2, LeO (laws_toExprS.l0 k y0 y1 y2) (laws_toExprS.l0 (k + 1) y0 y1 y2)) ∧ (∀ y0 y1 y2, LeO (laws_toExpr.f k y0 y1 y2) (laws_toExpr.f (k + 1) y0 y1 y2))
 | 0 => ⟨fun _ r h => by simp [laws_toExprS.f] at h, fun _ _ _ r h => by simp [laws_toExprS.l0] at h, fun _ _ _ r h => by simp [laws_toExpr.f] at h⟩
 | k + 1 => by
  obtain ⟨ih0, ih1, ih2⟩ := laws_toExprS.mono_all k
  refine ⟨?_, ?_, ?_⟩
  ·intro y0
   unfold laws_toExprS.f
   exact mo_
  ·intro y0 y1 y2
   unfold laws_toExprS.l0
   exact mo_
  ·intro y0 y1 y2
   unfold laws_toExpr.f
   exact mo_
theorem laws_toExprS.mono : ∀ a0 k, LeO (laws_toExprS.f k a0) (laws_toExprS.f (k + 1) a0) := by
 intro a0 k
 obtain ⟨ih0, ih1, ih2⟩ := laws_toExprS.mono_all k
 exact ih0 a0
theorem laws_toExpr.mono : ∀ a0 a1 a2 k, LeO (laws_toExpr.f k a0 a1 a2) (laws_toExpr.f (k + 1) a0 a1 a2) := by
 intro a0 a1 a2 k
 obtain ⟨ih0, ih1, ih2⟩ := laws_toExprS.mono_all k
 exact ih2 a0 a1 a2
abbrev laws_toExprS.CallsAt (k : Nat) : Prop := ∀ (A0 : Option Addr) (c0 : Nat) (l0 : List (S111)) (r : List (S56)) (w : World) (hr0 : Kd.C k111 w A0 l0.length l0) (hc0 : l0.length ≤ c0) (h : laws_toExprS.f k l0 = some r),
  Calls Tryz.prog 124 #[.slice A0 l0.length c0] w fun e w' => ∃ v0_ : Value, e = .returned (v0_) ∧ Kd.R k56 56 w' w.heap.size (fun _ => True) v0_ r ∧ Below w.heap.size w w'
abbrev laws_toExpr.CallsAt (k : Nat) : Prop := ∀ (a0_0 : Int) (a0_1 : Int) (A0_2 : Option Addr) (c0_2 : Nat) (l0_2 : List (S111)) (r1 : Int) (r2 : Int) (r3 : List (S56)) (w : World) (hr0_2 : Kd.C k111 w A0_2 l0_2.length l0_2) (hc0_2 : l0_2.length ≤ c0_2) (h : laws_toExpr.f k a0_0 a0_1 l0_2 = some (r1, r2, r3)),
  Calls Tryz.prog 103 #[.agg #[.int .i64 a0_0, .int .i64 a0_1, .slice A0_2 l0_2.length c0_2]] w fun e w' => ∃ v2_ : Value, e = .returned (.agg #[.int .i64 r1, .int .i64 r2, v2_]) ∧ Kd.R k56 56 w' w.heap.size (fun _ => True) v2_ r3 ∧ Below w.heap.size w w'
theorem laws_toExprS.step (k : Nat) (ih_laws_toExprS : ∀ m, m < k → laws_toExprS.CallsAt m) (ih_laws_toExpr : ∀ m, m < k → laws_toExpr.CallsAt m) : laws_toExprS.CallsAt k := by
 intro A0 c0 l0 r w hr0 hc0 h
 cases k with
 | zero => exact absurd h (by simp [laws_toExprS.f])
 | succ k =>
 simp only [laws_toExprS.f] at h
 have hu22 := Tryz.underlying111
 have hu56 := Tryz.underlying56
 have HR0 := am hr0
 have HC0 := am hc0
 clear hr0 hc0
 have HB := am (Below.refl w.heap.size w)
 have H : (if 0 ≤ (l0.length : Int) then (if ((l0.length : Int) : Int).toNat ≤ 7036874417766 then (laws_toExprS.l0 k l0 (List.replicate ((l0.length : Int) : Int).toNat z56) 0) else (none)) else (none)) = some r := h
 clear h
 by_cases c2 : 0 ≤ (l0.length : Int)
 ·rw [if_pos c2] at H
  have c2b0 := eq_true c2
  have c2b1 : decide (0 ≤ (l0.length : Int)) = true := decide_eq_true c2
  clear c2
  by_cases c3 : ((l0.length : Int) : Int).toNat ≤ 7036874417766
  ·rw [if_pos c3] at H
   have c3b0 := eq_true c3
   have c3b1 : decide (((l0.length : Int) : Int).toNat ≤ 7036874417766) = true := decide_eq_true c3
   clear c3
   obtain ⟨y23, hy_⟩ : ∃ y_ : List (S56), y_ = (List.replicate ((l0.length : Int) : Int).toNat z56) := ⟨_, rfl⟩
   replace H : (laws_toExprS.l0 k l0 y23 0) = some r := rx_
   have Ny23 := am hy_
   clear hy_
   have H' := am H
   clear H
   go_enter Tryz.func124, Tryz.ntmps124
   go_wp2_with (first | ((with_reducible refine gate_dst (N := 7) rfl ?_); refine Kd.R_make k56 _ 56 rfl (N := 7) rfl 54 _ _ rfl (l0.length : Int) rfl rfl Tryz.underlying54 (.agg #[(.int .i64 0), (.int .i64 0), (.slice none 0 0)]) 40 info56 rfl (by decide) (by omega) z56 (ok := fun _ => True) (okp := fun _ => True) (k56_mkM _ _ _ z56 (Kd.R_nil _ _ _ _ _)) (fun _ hk => hk) trivial (of_decide_eq_true asm_) (Nat.le_trans (Nat.mul_le_mul_right _ (of_decide_eq_true asm_ : (l0.length : Int).toNat ≤ 7036874417766)) (by omega)) (Below.refl _ _) (Nat.le_refl _) ?_; intro v24 w4 ho5 hb hg_ hnew_; clear hg_ hnew_; (first | rw [← Ny23.out] at ho5 | (simp only [Int.reduceToNat] at ho5; rw [← Ny23.out] at ho5)); have HO25 := am (Kd.R_lower ho5 (below_size ab2_)); replace HB := am (below_step ab2_ hb); clear hb ho5))
   go_loopg [4] k (fun kq v4 w' => ∃ (x3_1 : List (S56)) (x4_1 : Int), v4 = .int .i64 x4_1 ∧ Aside0 (laws_toExprS.l0 kq l0 x3_1 x4_1 = some r) ∧ Aside0 (kq ≤ k) ∧ Aside0 (Kd.R k56 56 w' w.heap.size (fun _ => True) v24 x3_1) ∧ Aside0 (Below w.heap.size w w'))
   case atStart => exact ⟨(y23), (0), sd_, H', ⟨Nat.le_refl _⟩, ⟨aRw_ HO25.out⟩, ⟨ab2_⟩⟩
   case round =>
    clear H'
    try clear c2
    try clear c2b0
    try clear c2b1
    try clear c3
    try clear c3b0
    try clear c3b1
    obtain ⟨x3_1, x4_1, rfl, HA, HK1, HO_3, HB⟩ := hrel
    cases gk with
    | zero => exact absurd HA.out (by simp [laws_toExprS.l0])
    | succ k1 =>
     have H := HA.out
     clear HA
     simp only [laws_toExprS.l0] at H
     by_cases c6 : x4_1 < (l0.length : Int)
     ·rw [if_pos c6] at H
      have c6b0 : decide (x4_1 < (l0.length : Int)) = true := decide_eq_true c6
      clear c6
      by_cases c7 : 0 ≤ x4_1
      ·rw [if_pos c7] at H
       have c7b0 : decide (0 ≤ x4_1) = true := decide_eq_true c7
       clear c7
       obtain ⟨⟨t26, t27, t28⟩, A8, H⟩ := bsa H
       (try dsimp only at H)
       by_cases c9 : x4_1 < (x3_1.length : Int)
       ·rw [if_pos c9] at H
        have c9b0 : decide (x4_1 < (x3_1.length : Int)) = true := decide_eq_true c9
        clear c9
        obtain ⟨y29, hy_⟩ : ∃ y_ : List (S56), y_ = (x3_1.set (x4_1 : Int).toNat (⟨t26, t27, t28⟩ : S56)) := ⟨_, rfl⟩
        replace H : (laws_toExprS.l0 k1 l0 y29 (wrap64 (x4_1 + 1))) = some r := rx_
        have Ny29 := am hy_
        clear hy_
        have H' := am H
        clear H
        have p30 : 0 ≤ (x4_1 : Int) := of_decide_eq_true asm_
        have q30 : x4_1 < (l0.length : Int) := of_decide_eq_true asm_
        obtain ⟨ad30, A30_2, c30_2, e30, hx30_0, hx30_1, hx30_2, hl30_2, hi30_2⟩ := at_T111 HR0.out x4_1 p30 q30
        cases e30
        replace hx30_0 := (HB.out.cell (World.block_lt_of_cell? w _ hx30_0)).trans hx30_0
        replace hx30_1 := (HB.out.cell (World.block_lt_of_cell? w _ hx30_1)).trans hx30_1
        replace hx30_2 := (HB.out.cell (World.block_lt_of_cell? w _ hx30_2)).trans hx30_2
        have HR30_2 := am hi30_2
        have HC30_2 := am hl30_2
        clear hi30_2 hl30_2
        replace p30 := eq_true p30
        replace q30 := eq_true q30
        go_wp2_with (first | ((with_reducible refine gate_callee (f := 103) rfl ?_); refine gl_ 20 Tryz.func103 #[.agg #[.int .i64 ((rd_T111 l0 x4_1).f0), .int .i64 ((rd_T111 l0 x4_1).f1), .slice A30_2 ((rd_T111 l0 x4_1).f2).length c30_2]] ?_; (with_reducible refine (ih_laws_toExpr k1 (by have := HK1.out; omega) ((rd_T111 l0 x4_1).f0) ((rd_T111 l0 x4_1).f1) _ _ ((rd_T111 l0 x4_1).f2) t26 t27 t28 _ (aC_ (Kd.C_below HR30_2.out HB.out)) HC30_2.out A8.out).mono ?_); rintro e w11 ⟨v31, rfl, ho0, hb⟩; refine ⟨_, rfl, ?_⟩; have st_ := fun (W_ : World) (a_ : Addr) => run_store Tryz.prog W_ a_ v31 .plain (by obtain ⟨_, _, e_⟩ := Kd.R_slice ho0; rw [e_]; rfl); have HO32 := am (Kd.R_lower (Kd.R_new' ho0 (Kd.R_lt (aR_ HO_3.out))) (below_size ab2_)); replace HO_3 := am (Kd.R_elder' (aR_ HO_3.out) (Kd.R_base ho0) hb); replace HB := am (below_step ab2_ hb); (try clear hb); (try clear ho0); have p10 : 0 ≤ (x4_1 : Int) := of_decide_eq_true asm_; have q10 : (x4_1 : Int) < ((x3_1.length : Int) : Int) := of_decide_eq_true asm_; obtain ⟨go10, co10, eo10, gb10, gl10, cl10, HG10⟩ := Kd.R_form HO_3.out (by omega); (first | cases eo10 | (injection eo10 with ea_ en_ ec_; (first | subst ea_ | (injection ea_ with ea_; subst ea_)); subst ec_; clear en_)); have GB10 := am gb10; have GG10 := am HG10; clear gb10 gl10 HG10; obtain ⟨ce10, hcl10, hM10, hcc10, hfr10⟩ := Kd.R_elem HO_3.out z56 (x4_1 : Int) p10 q10; obtain ⟨ve10_2, rfl, ge10_2⟩ := k56_openM hM10; have hx10_0 : w11.cell? ⟨go10, (x4_1 : Int).toNat * 3, none⟩ = some (.int .i64 ((rd_T56 x3_1 x4_1).f0)) := hcc10 0 _ rfl; have hx10_1 : w11.cell? ⟨go10, (x4_1 : Int).toNat * 3 + 1, none⟩ = some (.int .i64 ((rd_T56 x3_1 x4_1).f1)) := hcc10 1 _ rfl; have hx10_2 : w11.cell? ⟨go10, (x4_1 : Int).toNat * 3 + 2, none⟩ = some (ve10_2) := hcc10 2 _ rfl; have hf10_0 : w11.frozen? ⟨go10, (x4_1 : Int).toNat * 3, none⟩ = false := hfr10 0; have hf10_1 : w11.frozen? ⟨go10, (x4_1 : Int).toNat * 3 + 1, none⟩ = false := hfr10 1; have hf10_2 : w11.frozen? ⟨go10, (x4_1 : Int).toNat * 3 + 2, none⟩ = false := hfr10 2; clear hcl10 hcc10 hfr10 hM10; replace p10 := eq_true p10; replace q10 := eq_true q10; have n_ := am (Kd.R_mono (ok' := (fun k_ => some k_ ≠ (v31 : Value).ownBlock)) HO_3.out (fun k_ hk => hk.2)); clear HO_3; have HO_3 := n_; clear n_; have HX12 := am (show Kd.R k56 56 w11 w.heap.size (fun _ => True) (.slice (some ⟨go10, 0, none⟩) x3_1.length co10) x3_1 from (aRw_ (Kd.R_mono HO_3.out (fun _ hk => trivial)))); obtain ⟨ce12, hcl12, hM12, hcc12, hfr12⟩ := Kd.R_elem HX12.out z56 (x4_1 : Int) (of_decide_eq_true asm_) (by have h_ : (x4_1 : Int) < ((x3_1.length : Int) : Int) := of_decide_eq_true asm_; first | exact h_ | (have e_ := (Kd.R_reads' HO_3.out).1; omega) | simpa using h_); obtain ⟨ve12_2, rfl, ge12_2⟩ := k56_openM hM12; have HP12 := Kd.R_seg HX12.out (x4_1 : Int) (of_decide_eq_true asm_) (by have h_ : (x4_1 : Int) < ((x3_1.length : Int) : Int) := of_decide_eq_true asm_; first | exact h_ | (have e_ := (Kd.R_reads' HO_3.out).1; omega) | simpa using h_) (seg := [.int .i64 t26, .int .i64 t27, v31]) (j := 0) hcl12 hcc12 (show 3 ≤ 3 from by decide) (x' := (⟨t26, t27, t28⟩ : S56)) (k56_mkM _ _ _ (⟨t26, t27, t28⟩ : S56) (Kd.R_mono (HO32.out) (fun k_ hk => ⟨trivial, fun e_ => (hk.2) (by rw [e_]; rfl)⟩))) (fun _ hk => hk); have hx12_0 := hcc12 0 _ rfl; (try simp only [show (k56).sz = 3 from rfl, Nat.mul_one, Nat.add_zero] at hx12_0); have hf12_0 := hfr12 0; (try simp only [show (k56).sz = 3 from rfl, Nat.mul_one, Nat.add_zero] at hf12_0); have hx12_1 := hcc12 1 _ rfl; (try simp only [show (k56).sz = 3 from rfl, Nat.mul_one, Nat.add_zero] at hx12_1); have hf12_1 := hfr12 1; (try simp only [show (k56).sz = 3 from rfl, Nat.mul_one, Nat.add_zero] at hf12_1); have hx12_2 := hcc12 2 _ rfl; (try simp only [show (k56).sz = 3 from rfl, Nat.mul_one, Nat.add_zero] at hx12_2); have hf12_2 := hfr12 2; (try simp only [show (k56).sz = 3 from rfl, Nat.mul_one, Nat.add_zero] at hf12_2); clear hcl12 hcc12 hfr12 hM12) | ((with_reducible refine gate_store (t := 56) (p := 21) rfl ?_); refine store_event (t := 56) (p := 21) (v := ?vo_w13) (w1 := (((w11.setCell ⟨go10, (x4_1 : Int).toNat * 3, none⟩ (.int .i64 t26)).setCell ⟨go10, (x4_1 : Int).toNat * 3 + 1, none⟩ (.int .i64 t27)).setCell ⟨go10, (x4_1 : Int).toNat * 3 + 2, none⟩ (v31))) ?hg ?ho ?hn ?hr ?_; (case ho => rfl); (case hg => rfl); (case hn => rfl); (case hr => first | (go_simp; done) | (go_simp; rfl)); intro w13 hw; have hg : w11.grownBy w13 (some go10) := (by rw [hw]; exact HP12.2); have hp_ : Kd.R k56 56 w13 w.heap.size (fun _ => True) (.slice (some ⟨go10, 0, none⟩) x3_1.length co10) y29 := (by rw [hw, Ny29.out]; exact HP12.1); clear HP12; replace HO_3 := am (hp_); replace HB := am ((by rw [hw]; exact below_set (below_set (below_set (HB.out) GB10.out) GB10.out) GB10.out : Below w.heap.size w w13)); clear HO32 hg hw hp_))
        go_roundg k1
        case measure => have := HK1.out; omega
        case rel => exact ⟨(y29), (wrap64 (x4_1 + 1)), sd_, H', ⟨by have := HK1.out; omega⟩, ⟨aRw_ HO_3.out⟩, ⟨ab2_⟩⟩
       rw [if_neg c9] at H
       exact absurd H (by simp)
      rw [if_neg c7] at H
      exact absurd H (by simp)
     rw [if_neg c6] at H
     have c6b0 : decide (x4_1 < (l0.length : Int)) = false := decide_eq_false c6
     clear c6
     obtain rfl := Option.some.inj H
     go_wp2
     go_ret
     exact ⟨_, ab13_, aRw_ HO_3.out, ab2_⟩
  rw [if_neg c3] at H
  exact absurd H (by simp)
 rw [if_neg c2] at H
 exact absurd H (by simp)
theorem laws_toExpr.step (k : Nat) (ih_laws_toExprS : ∀ m, m < k → laws_toExprS.CallsAt m) (ih_laws_toExpr : ∀ m, m < k → laws_toExpr.CallsAt m) : laws_toExpr.CallsAt k := by
 intro a0_0 a0_1 A0_2 c0_2 l0_2 r1 r2 r3 w hr0_2 hc0_2 h
 cases k with
 | zero => exact absurd h (by simp [laws_toExpr.f])
 | succ k =>
 simp only [laws_toExpr.f] at h
 have hu21 := Tryz.underlying111
 have hu56 := Tryz.underlying56
 have HR0_2 := am hr0_2
 have HC0_2 := am hc0_2
 clear hr0_2 hc0_2
 have HB := am (Below.refl w.heap.size w)
 have H : ((laws_toExprS.f k l0_2).bind fun t22 => (some (a0_0, a0_1, t22))) = some (r1, r2, r3) := h
 clear h
 obtain ⟨t22, A2, H⟩ := bsa H
 (try dsimp only at H)
 simp only [Option.some.injEq, Prod.mk.injEq] at H
 obtain ⟨rfl, rfl, rfl⟩ := H
 go_enter Tryz.func103, Tryz.ntmps103
 go_wp2_with (first | ((with_reducible refine gate_dst (N := 1) rfl ?_); refine box_event rfl (N := 1) rfl (cs := #[.int .i64 a0_0, .int .i64 a0_1, .slice A0_2 l0_2.length c0_2]) (t := 111) rn_ ?_; intro gb23 hg w3 hbox hb; have BK23 := am (hbox); have GW23 := am ((by rw [hg]; exact (below_size ab2_) : w.heap.size ≤ gb23)); have GE23 := am ((by rw [hg]; exact (below_size ab2_) : w.heap.size ≤ gb23)); replace HB := am (below_step ab2_ hb); clear hb hbox hg) | ((with_reducible refine gate_dst (N := 2) rfl ?_); refine box_event rfl (N := 2) rfl (cs := #[.int .i64 0, .int .i64 0, .slice none 0 0]) (t := 56) rn_ ?_; intro gb24 hg w4 hbox hb; have BK24 := am (hbox); have GW24 := am ((by rw [hg]; exact (below_size ab31_) : w.heap.size ≤ gb24)); have GE24 := am ((by rw [hg]; exact (below_size ab31_) : w.heap.size ≤ gb24)); replace HB := am (below_step ab31_ hb); have NB23_24 := am ((by rw [hg]; exact Nat.ne_of_lt (blt_ BK23.out) : gb23 ≠ gb24)); have NB24_23 := am ((by rw [hg]; exact Nat.ne_of_gt (blt_ BK23.out) : gb24 ≠ gb23)); replace BK23 := am (bbl_ BK23.out hb); clear hb hbox hg) | ((with_reducible refine gate_dst (N := 3) rfl ?_); refine box_event rfl (N := 3) rfl (cs := #[.int .i64 0, .int .i64 0, .slice none 0 0]) (t := 56) rn_ ?_; intro gb25 hg w5 hbox hb; have BK25 := am (hbox); have GW25 := am ((by rw [hg]; exact (below_size ab74_) : w.heap.size ≤ gb25)); have GE25 := am ((by rw [hg]; exact (below_size ab74_) : w.heap.size ≤ gb25)); replace HB := am (below_step ab74_ hb); have NB23_25 := am ((by rw [hg]; exact Nat.ne_of_lt (blt_ BK23.out) : gb23 ≠ gb25)); have NB25_23 := am ((by rw [hg]; exact Nat.ne_of_gt (blt_ BK23.out) : gb25 ≠ gb23)); replace BK23 := am (bbl_ BK23.out hb); have NB24_25 := am ((by rw [hg]; exact Nat.ne_of_lt (blt_ BK24.out) : gb24 ≠ gb25)); have NB25_24 := am ((by rw [hg]; exact Nat.ne_of_gt (blt_ BK24.out) : gb25 ≠ gb24)); replace BK24 := am (bbl_ BK24.out hb); clear hb hbox hg; have hnb6 := NB23_24.out; have hnc6 := NB24_23.out; have hnb7 := NB23_25.out; have hnc7 := NB25_23.out; obtain ⟨hcz8_0, hcz8_1, hcz8_2, hfz8_0, hfz8_1, hfz8_2⟩ := bcf3_ BK23.out; have hnb9 := NB25_24.out; have hnc9 := NB24_25.out; obtain ⟨hcz10_0, hcz10_1, hcz10_2, hfz10_0, hfz10_1, hfz10_2⟩ := bcf3_ BK25.out) | ((with_reducible refine gate_callee (f := 124) rfl ?_); refine gl_ 12 Tryz.func124 #[.slice A0_2 l0_2.length c0_2] ?_; (with_reducible refine (ih_laws_toExprS k (by omega) _ _ l0_2 t22 _ ?side1 HC0_2.out A2.out).mono ?_); (case side1 => exact Kd.C_below HR0_2.out ab46_); rintro e w11 ⟨v26, rfl, ho0, hb⟩; refine ⟨_, rfl, ?_⟩; have HO27 := am (Kd.R_lower (Kd.R_newB (Kd.R_newB ho0 (g := gb24) (o := .cells #[.int .i64 0, .int .i64 0, .slice none 0 0] 56 (0, 0)) (blk_far (blk_far BK24.out NB24_25.out _) NB24_25.out _)) (g := gb25) (o := .cells #[.int .i64 a0_0, .int .i64 a0_1, .slice none 0 0] 56 (0, 0)) (blk_put (blk_put BK25.out 0 _ rfl) 1 _ rfl)) (below_size ab46_)); replace BK23 := am (blk_below (g := gb23) (o := .cells #[.int .i64 a0_0, .int .i64 a0_1, .slice A0_2 l0_2.length c0_2] 111 (0, 0)) (blk_far (blk_far BK23.out NB23_25.out _) NB23_25.out _) hb); replace BK24 := am (blk_below (g := gb24) (o := .cells #[.int .i64 0, .int .i64 0, .slice none 0 0] 56 (0, 0)) (blk_far (blk_far BK24.out NB24_25.out _) NB24_25.out _) hb); replace BK25 := am (blk_below (g := gb25) (o := .cells #[.int .i64 a0_0, .int .i64 a0_1, .slice none 0 0] 56 (0, 0)) (blk_put (blk_put BK25.out 0 _ rfl) 1 _ rfl) hb); replace HB := am (below_step ab46_ hb); (try clear hb); (try clear ho0); obtain ⟨Ao12, co12, eo12⟩ := Kd.R_slice HO27.out; subst eo12; obtain ⟨hcz13_0, hcz13_1, hcz13_2, hfz13_0, hfz13_1, hfz13_2⟩ := bcf3_ BK25.out; obtain ⟨hcz14_0, hcz14_1, hcz14_2, hfz14_0, hfz14_1, hfz14_2⟩ := bcf3_ BK24.out))
 refine bodyPost_ret (results_cell_row rfl _ _ gb24 56 #[.int .i64 a0_0, .int .i64 a0_1, .slice Ao12 t22.length co12] (0, 0) _ rfl (blk_put (blk_put (blk_put (blk_far BK24.out NB24_25.out _) 0 _ rfl) 1 _ rfl) 2 _ rfl) Tryz.underlying56 rfl (by kernel_rfl)) rfl ?_
 exact ⟨_, ab13_, aRw_ (Kd.R_mono (Kd.R_far (p := ⟨gb24, 2, none⟩) (Kd.R_far (p := ⟨gb24, 1, none⟩) (Kd.R_far (p := ⟨gb24, 0, none⟩) (Kd.R_far (p := ⟨gb25, 2, none⟩) (Kd.R_mono (Kd.R_mono HO27.out (fun k_ hk => (⟨hk, hk.2⟩ : _ ∧ k_ ≠ gb25))) (fun k_ hk => (⟨hk, hk.1.1.2⟩ : _ ∧ k_ ≠ gb24))) (fun _ hk => hk.1.2) (.slice Ao12 t22.length co12)) (fun _ hk => hk.2) (.int .i64 a0_0)) (fun _ hk => hk.2) (.int .i64 a0_1)) (fun _ hk => hk.2) (.slice Ao12 t22.length co12)) (fun _ hk => trivial)), ab46_⟩
theorem laws_toExprS.calls_all (k : Nat) : laws_toExprS.CallsAt k ∧ laws_toExpr.CallsAt k := by
 induction k using Nat.strongRecOn with
 | _ k ih => exact ⟨laws_toExprS.step k (ih_laws_toExprS := fun m hm => (ih m hm).1) (ih_laws_toExpr := fun m hm => (ih m hm).2), laws_toExpr.step k (ih_laws_toExprS := fun m hm => (ih m hm).1) (ih_laws_toExpr := fun m hm => (ih m hm).2)⟩
theorem laws_toExprS.calls (k : Nat) : laws_toExprS.CallsAt k := (laws_toExprS.calls_all k).1
theorem laws_toExpr.calls (k : Nat) : laws_toExpr.CallsAt k := (laws_toExprS.calls_all k).2
theorem laws_toStmtS.mono_all : ∀ k, (∀ a b c, LeO (laws_toStmtS.l0 k a b c) (laws_toStmtS.l0 (k + 1) a b c)) ∧ (∀ a, LeO (laws_toStmtS.f k a) (laws_toStmtS.f (k + 1) a)) ∧ (∀ s, LeO (laws_toStmt.f k s) (laws_toStmt.f (k + 1) s))
 | 0 => ⟨fun _ _ _ r h => by simp [laws_toStmtS.l0] at h, fun _ r h => by simp [laws_toStmtS.f] at h, fun _ r h => by simp [laws_toStmt.f] at h⟩
 | k + 1 => by
  obtain ⟨i0, i1, i2⟩ := laws_toStmtS.mono_all k
  refine ⟨fun a b c => ?_, fun a => ?_, fun s => ?_⟩
  ·unfold laws_toStmtS.l0
   refine LeO.ite (LeO.ite (LeO.bind (i2 _) (fun _ => LeO.ite (i0 _ _ _) (LeO.none _))) (LeO.none _)) (LeO.refl _)
  ·unfold laws_toStmtS.f
   exact LeO.ite (i0 _ _ _) (LeO.none _)
  ·unfold laws_toStmt.f
   exact LeO.bind (laws_toExpr.mono _ _ _ _) (fun _ => LeO.bind (i1 _) (fun _ => LeO.bind (i1 _) (fun _ => LeO.refl _)))
theorem laws_toStmtS.mono : ∀ a k, LeO (laws_toStmtS.f k a) (laws_toStmtS.f (k + 1) a) := fun a k => (laws_toStmtS.mono_all k).2.1 a
theorem toE_N {α : Type} {d : Kd α} {e : Nat} {w w' : World} {v : Value} {xs : List α} (h : d.R e w' w.heap.size (fun _ => True) v xs) (_ : Below w.heap.size w w') : Kd.N d e w' w.heap.size (fun q => w.heap.size ≤ q) v xs := by
 exact Kd.R_N (Kd.R_mono (Kd.R_bound h) (fun k hk => hk.2.1))
theorem stop_ {p : Prop} (h : Aside0 p) : p := h.out
abbrev laws_toStmtS.CallsAt (k : Nat) : Prop := ∀ (A0 : Option Addr) (c0 : Nat) (l0 : List S113) (r : List S58) (w : World) (hr0 : Kd.C k113 w A0 l0.length l0) (hc0 : l0.length ≤ c0) (h : laws_toStmtS.f k l0 = some r),
  Calls Tryz.prog 56 #[.slice A0 l0.length c0] w fun e w' => ∃ v0_ : Value, e = .returned v0_ ∧ Kd.N k58 58 w' w.heap.size (fun k_ => (w.heap.size ≤ k_)) v0_ r ∧ Below w.heap.size w w'
abbrev laws_toStmt.CallsAt (k : Nat) : Prop := ∀ (s : S113) (A5 : Option Addr) (c5 : Nat) (A6 : Option Addr) (c6 : Nat) (A7 : Option Addr) (c7 : Nat) (r : S58) (w : World) (h5 : Kd.C k111 w A5 s.f3.f2.length s.f3.f2) (l5 : s.f3.f2.length ≤ c5) (h6 : Kd.C k113 w A6 s.f4.length s.f4) (l6 : s.f4.length ≤ c6) (h7 : Kd.C k113 w A7 s.f5.length s.f5) (l7 : s.f5.length ≤ c7) (h : laws_toStmt.f k s = some r),
  Calls Tryz.prog 79 #[.agg #[(.int .i64 s.f0), (.int .i64 s.f1), (.int .i64 s.f2), (.int .i64 s.f3.f0), (.int .i64 s.f3.f1), (.slice A5 s.f3.f2.length c5), (.slice A6 s.f4.length c6), (.slice A7 s.f5.length c7)]] w fun e w' => ∃ B5 d5 B6 d6 B7 d7, e = .returned (.agg #[.int .i64 r.f0, .int .i64 r.f1, .int .i64 r.f2, .int .i64 r.f3.f0, .int .i64 r.f3.f1, .slice B5 r.f3.f2.length d5, .slice B6 r.f4.length d6, .slice B7 r.f5.length d7]) ∧ Kd.FK k58 w' (fun q => w.heap.size ≤ q) r [.int .i64 r.f0, .int .i64 r.f1, .int .i64 r.f2, .int .i64 r.f3.f0, .int .i64 r.f3.f1, .slice B5 r.f3.f2.length d5, .slice B6 r.f4.length d6, .slice B7 r.f5.length d7] ∧ Below w.heap.size w w'
theorem laws_toStmt.step (k : Nat) (ihS : ∀ m, m < k → laws_toStmtS.CallsAt m) : laws_toStmt.CallsAt k := by
 intro s A5 c5 A6 c6 A7 c7 r w h5 q5 h6 q6 h7 q7 h
 cases k with
 | zero => exact absurd h (by simp [laws_toStmt.f])
 | succ k =>
 simp only [laws_toStmt.f] at h
 replace h := Option.bind_eq_some_iff.mp h
 obtain ⟨⟨e1, e2, l5⟩, he, h⟩ := h
 replace h := Option.bind_eq_some_iff.mp h
 obtain ⟨l6, hb6, h⟩ := h
 replace h := Option.bind_eq_some_iff.mp h
 obtain ⟨l7, hb7, h⟩ := h
 obtain rfl := Option.some.inj h
 have H5 := am h5
 have H6 := am h6
 have H7 := am h7
 have L5 := am q5
 have L6 := am q6
 have L7 := am q7
 have HE := am he
 have HB6 := am hb6
 have HB7 := am hb7
 clear h h5 h6 h7 q5 q6 q7 he hb6 hb7
 go_enter Tryz.func79, Tryz.ntmps79
 go_wp2_with (first | ((with_reducible refine gate_dst (N := 1) rfl ?_); refine box_event rfl (N := 1) rfl (cs := #[(.int .i64 s.f0), (.int .i64 s.f1), (.int .i64 s.f2), (.int .i64 s.f3.f0), (.int .i64 s.f3.f1), (.slice A5 s.f3.f2.length c5), (.slice A6 s.f4.length c6), (.slice A7 s.f5.length c7)]) (t := 113) rn_ ?_; intro g1 hg w1 hbox hb; have X1 := am hbox; have B := am hb; have GE1 : Aside0 (w.heap.size ≤ g1) := ⟨Nat.le_of_eq hg.symm⟩; clear hb hbox hg) | ((with_reducible refine gate_dst (N := 2) rfl ?_); refine box_event rfl (N := 2) rfl (cs := #[(.int .i64 0), (.int .i64 0), (.int .i64 0), (.int .i64 0), (.int .i64 0), (.slice none 0 0), (.slice none 0 0), (.slice none 0 0)]) (t := 58) rn_ ?_; intro g2 hg w2 hbox hb; have n1_ := am (blk_below X1.out hb); have n2_ := am (below_step B.out hb); have X2 := am hbox; have NE12 : Aside0 (g1 < g2) := ⟨by rw [hg]; exact blk_lt X1.out⟩; clear X1 B; have X1 := n1_; have B := n2_; clear n1_ n2_ hb hbox hg) | ((with_reducible refine gate_dst (N := 3) rfl ?_); refine box_event rfl (N := 3) rfl (cs := #[(.int .i64 0), (.int .i64 0), (.int .i64 0), (.int .i64 0), (.int .i64 0), (.slice none 0 0), (.slice none 0 0), (.slice none 0 0)]) (t := 58) rn_ ?_; intro g3 hg w3 hbox hb; have n1_ := am (blk_below X1.out hb); have n2_ := am (below_step B.out hb); have n3_ := am (blk_below X2.out hb); have X3 := am hbox; have NE23 : Aside0 (g2 < g3) := ⟨by rw [hg]; exact blk_lt X2.out⟩; clear X1 B X2; have X1 := n1_; have B := n2_; have X2 := n3_; clear n1_ n2_ n3_; have GE3 : Aside0 (w.heap.size ≤ g3) := ⟨by have := GE1.out; have := NE12.out; have := NE23.out; omega⟩; have GE2 : Aside0 (w.heap.size ≤ g2) := ⟨by have := GE1.out; have := NE12.out; omega⟩; have ne13 : g1 ≠ g3 := (by have := NE12.out; have := NE23.out; omega); have ne31 : g3 ≠ g1 := Ne.symm ne13; have ne23 : g2 ≠ g3 := (by have := NE23.out; omega); have ne32 : g3 ≠ g2 := Ne.symm ne23; have yp0 : w3.cell? ⟨g1, 0, none⟩ = some (.int .i64 s.f0) := blk_cell X1.out 0; have yo0 : w3.cell? ⟨g3, 0, none⟩ = some (.int .i64 0) := blk_cell X3.out 0; have fo0 := blk_frozen X3.out 0; have yp1 : w3.cell? ⟨g1, 1, none⟩ = some (.int .i64 s.f1) := blk_cell X1.out 1; have yo1 : w3.cell? ⟨g3, 1, none⟩ = some (.int .i64 0) := blk_cell X3.out 1; have fo1 := blk_frozen X3.out 1; have yp2 : w3.cell? ⟨g1, 2, none⟩ = some (.int .i64 s.f2) := blk_cell X1.out 2; have yo2 : w3.cell? ⟨g3, 2, none⟩ = some (.int .i64 0) := blk_cell X3.out 2; have fo2 := blk_frozen X3.out 2; have yp3 : w3.cell? ⟨g1, 3, none⟩ = some (.int .i64 s.f3.f0) := blk_cell X1.out 3; have yo3 : w3.cell? ⟨g3, 3, none⟩ = some (.int .i64 0) := blk_cell X3.out 3; have fo3 := blk_frozen X3.out 3; have yp4 : w3.cell? ⟨g1, 4, none⟩ = some (.int .i64 s.f3.f1) := blk_cell X1.out 4; have yo4 : w3.cell? ⟨g3, 4, none⟩ = some (.int .i64 0) := blk_cell X3.out 4; have fo4 := blk_frozen X3.out 4; have yp5 : w3.cell? ⟨g1, 5, none⟩ = some (.slice A5 s.f3.f2.length c5) := blk_cell X1.out 5; have yo5 : w3.cell? ⟨g3, 5, none⟩ = some (.slice none 0 0) := blk_cell X3.out 5; have fo5 := blk_frozen X3.out 5; have yp6 : w3.cell? ⟨g1, 6, none⟩ = some (.slice A6 s.f4.length c6) := blk_cell X1.out 6; have yo6 : w3.cell? ⟨g3, 6, none⟩ = some (.slice none 0 0) := blk_cell X3.out 6; have fo6 := blk_frozen X3.out 6; have yp7 : w3.cell? ⟨g1, 7, none⟩ = some (.slice A7 s.f5.length c7) := blk_cell X1.out 7; have yo7 : w3.cell? ⟨g3, 7, none⟩ = some (.slice none 0 0) := blk_cell X3.out 7; have fo7 := blk_frozen X3.out 7; clear hb hbox hg) | ((with_reducible refine gate_callee (f := 103) rfl ?_); refine goesL_ (some 15) rfl rfl Tryz.func103 (by kernel_rfl) rfl #[.agg #[.int .i64 s.f3.f0, .int .i64 s.f3.f1, .slice A5 s.f3.f2.length c5]] rfl (by (try simp only [List.map_toArray, List.map_cons, List.map_nil]); first | done | rfl) ?_; (with_reducible refine (laws_toExpr.calls k s.f3.f0 s.f3.f1 A5 c5 s.f3.f2 e1 e2 l5 _ (Kd.C_below H5.out (below_set (j := 2) (v := (.int .i64 s.f2)) (below_set (j := 1) (v := (.int .i64 s.f1)) (below_set (j := 0) (v := (.int .i64 s.f0)) B.out GE3.out) GE3.out) GE3.out)) L5.out HE.out).mono ?_); rintro e w4 ⟨v5, rfl, hr, hb⟩; refine ⟨_, rfl, ?_⟩; have hn2 := toE_N hr hb; have O5_ := am (Kd.N_lower (Kd.N_mono (ok' := fun q => w.heap.size ≤ q ∧ q ≠ g2 ∧ q ≠ g3) hn2 (fun q hq => by have h1_ := ((below_set (j := 2) (v := (.int .i64 s.f2)) (below_set (j := 1) (v := (.int .i64 s.f1)) (below_set (j := 0) (v := (.int .i64 s.f0)) B.out GE3.out) GE3.out) GE3.out)).size; have h2_ := blk_lt (blk_far (p := ⟨g3, 2, none⟩) (blk_far (p := ⟨g3, 1, none⟩) (blk_far (p := ⟨g3, 0, none⟩) X2.out ne23 (.int .i64 s.f0)) ne23 (.int .i64 s.f1)) ne23 (.int .i64 s.f2)); have h3_ := blk_lt (blk_put (cs' := #[(.int .i64 s.f0), (.int .i64 s.f1), (.int .i64 s.f2), (.int .i64 0), (.int .i64 0), (.slice none 0 0), (.slice none 0 0), (.slice none 0 0)]) (blk_put (cs' := #[(.int .i64 s.f0), (.int .i64 s.f1), (.int .i64 0), (.int .i64 0), (.int .i64 0), (.slice none 0 0), (.slice none 0 0), (.slice none 0 0)]) (blk_put (cs' := #[(.int .i64 s.f0), (.int .i64 0), (.int .i64 0), (.int .i64 0), (.int .i64 0), (.slice none 0 0), (.slice none 0 0), (.slice none 0 0)]) X3.out 0 (.int .i64 s.f0) rfl) 1 (.int .i64 s.f1) rfl) 2 (.int .i64 s.f2) rfl); exact ⟨Nat.le_trans h1_ hq, by omega, by omega⟩)) ((below_set (j := 2) (v := (.int .i64 s.f2)) (below_set (j := 1) (v := (.int .i64 s.f1)) (below_set (j := 0) (v := (.int .i64 s.f0)) B.out GE3.out) GE3.out) GE3.out)).size); have n1_ := am (blk_below (blk_far (p := ⟨g3, 2, none⟩) (blk_far (p := ⟨g3, 1, none⟩) (blk_far (p := ⟨g3, 0, none⟩) X1.out ne13 (.int .i64 s.f0)) ne13 (.int .i64 s.f1)) ne13 (.int .i64 s.f2)) hb); have n2_ := am (blk_below (blk_far (p := ⟨g3, 2, none⟩) (blk_far (p := ⟨g3, 1, none⟩) (blk_far (p := ⟨g3, 0, none⟩) X2.out ne23 (.int .i64 s.f0)) ne23 (.int .i64 s.f1)) ne23 (.int .i64 s.f2)) hb); have n3_ := am (blk_below (blk_put (cs' := #[(.int .i64 s.f0), (.int .i64 s.f1), (.int .i64 s.f2), (.int .i64 0), (.int .i64 0), (.slice none 0 0), (.slice none 0 0), (.slice none 0 0)]) (blk_put (cs' := #[(.int .i64 s.f0), (.int .i64 s.f1), (.int .i64 0), (.int .i64 0), (.int .i64 0), (.slice none 0 0), (.slice none 0 0), (.slice none 0 0)]) (blk_put (cs' := #[(.int .i64 s.f0), (.int .i64 0), (.int .i64 0), (.int .i64 0), (.int .i64 0), (.slice none 0 0), (.slice none 0 0), (.slice none 0 0)]) X3.out 0 (.int .i64 s.f0) rfl) 1 (.int .i64 s.f1) rfl) 2 (.int .i64 s.f2) rfl) hb); have n4_ := am (below_step (below_set (j := 2) (v := (.int .i64 s.f2)) (below_set (j := 1) (v := (.int .i64 s.f1)) (below_set (j := 0) (v := (.int .i64 s.f0)) B.out GE3.out) GE3.out) GE3.out) hb); clear X1 X2 X3 B; have X1 := n1_; have X2 := n2_; have X3 := n3_; have B := n4_; clear n1_ n2_ n3_ n4_; (try clear yp0 yp1 yp2 yp3 yp4 yp5 yp6 yp7); (try clear yo0 yo1 yo2 yo3 yo4 yo5 yo6 yo7); (try clear fo0 fo1 fo2 fo3 fo4 fo5 fo6 fo7); have O5 := O5_; clear O5_ hn2 hr hb; obtain ⟨B5, d5, rfl⟩ := Kd.N_slice O5.out; have yp0 : w4.cell? ⟨g1, 0, none⟩ = some (.int .i64 s.f0) := blk_cell X1.out 0; have yo0 : w4.cell? ⟨g3, 0, none⟩ = some (.int .i64 s.f0) := blk_cell X3.out 0; have fo0 := blk_frozen X3.out 0; have yp1 : w4.cell? ⟨g1, 1, none⟩ = some (.int .i64 s.f1) := blk_cell X1.out 1; have yo1 : w4.cell? ⟨g3, 1, none⟩ = some (.int .i64 s.f1) := blk_cell X3.out 1; have fo1 := blk_frozen X3.out 1; have yp2 : w4.cell? ⟨g1, 2, none⟩ = some (.int .i64 s.f2) := blk_cell X1.out 2; have yo2 : w4.cell? ⟨g3, 2, none⟩ = some (.int .i64 s.f2) := blk_cell X3.out 2; have fo2 := blk_frozen X3.out 2; have yp3 : w4.cell? ⟨g1, 3, none⟩ = some (.int .i64 s.f3.f0) := blk_cell X1.out 3; have yo3 : w4.cell? ⟨g3, 3, none⟩ = some (.int .i64 0) := blk_cell X3.out 3; have fo3 := blk_frozen X3.out 3; have yp4 : w4.cell? ⟨g1, 4, none⟩ = some (.int .i64 s.f3.f1) := blk_cell X1.out 4; have yo4 : w4.cell? ⟨g3, 4, none⟩ = some (.int .i64 0) := blk_cell X3.out 4; have fo4 := blk_frozen X3.out 4; have yp5 : w4.cell? ⟨g1, 5, none⟩ = some (.slice A5 s.f3.f2.length c5) := blk_cell X1.out 5; have yo5 : w4.cell? ⟨g3, 5, none⟩ = some (.slice none 0 0) := blk_cell X3.out 5; have fo5 := blk_frozen X3.out 5; have yp6 : w4.cell? ⟨g1, 6, none⟩ = some (.slice A6 s.f4.length c6) := blk_cell X1.out 6; have yo6 : w4.cell? ⟨g3, 6, none⟩ = some (.slice none 0 0) := blk_cell X3.out 6; have fo6 := blk_frozen X3.out 6; have yp7 : w4.cell? ⟨g1, 7, none⟩ = some (.slice A7 s.f5.length c7) := blk_cell X1.out 7; have yo7 : w4.cell? ⟨g3, 7, none⟩ = some (.slice none 0 0) := blk_cell X3.out 7; have fo7 := blk_frozen X3.out 7) | ((with_reducible refine gate_callee (f := 56) rfl ?_); refine goesL_ (some 19) rfl rfl Tryz.func56 (by kernel_rfl) rfl #[.slice A6 s.f4.length c6] rfl (by (try simp only [List.map_toArray, List.map_cons, List.map_nil]); first | done | rfl) ?_; (with_reducible refine ((ihS k (by omega) A6 c6 s.f4 l6 _ (Kd.C_below H6.out (below_set (j := 5) (v := (.slice B5 l5.length d5)) (below_set (j := 4) (v := (.int .i64 e2)) (below_set (j := 3) (v := (.int .i64 e1)) B.out GE3.out) GE3.out) GE3.out)) L6.out HB6.out)).mono ?_); rintro e w5 ⟨v6, rfl, hn, hb⟩; refine ⟨_, rfl, ?_⟩; have O6_ := am (Kd.N_lower (Kd.N_mono (ok' := fun q => w.heap.size ≤ q ∧ q ≠ g2 ∧ q ≠ g3) hn (fun q hq => by have h1_ := ((below_set (j := 5) (v := (.slice B5 l5.length d5)) (below_set (j := 4) (v := (.int .i64 e2)) (below_set (j := 3) (v := (.int .i64 e1)) B.out GE3.out) GE3.out) GE3.out)).size; have h2_ := blk_lt (blk_far (p := ⟨g3, 5, none⟩) (blk_far (p := ⟨g3, 4, none⟩) (blk_far (p := ⟨g3, 3, none⟩) X2.out ne23 (.int .i64 e1)) ne23 (.int .i64 e2)) ne23 (.slice B5 l5.length d5)); have h3_ := blk_lt (blk_put (cs' := #[(.int .i64 s.f0), (.int .i64 s.f1), (.int .i64 s.f2), (.int .i64 e1), (.int .i64 e2), (.slice B5 l5.length d5), (.slice none 0 0), (.slice none 0 0)]) (blk_put (cs' := #[(.int .i64 s.f0), (.int .i64 s.f1), (.int .i64 s.f2), (.int .i64 e1), (.int .i64 e2), (.slice none 0 0), (.slice none 0 0), (.slice none 0 0)]) (blk_put (cs' := #[(.int .i64 s.f0), (.int .i64 s.f1), (.int .i64 s.f2), (.int .i64 e1), (.int .i64 0), (.slice none 0 0), (.slice none 0 0), (.slice none 0 0)]) X3.out 3 (.int .i64 e1) rfl) 4 (.int .i64 e2) rfl) 5 (.slice B5 l5.length d5) rfl); exact ⟨Nat.le_trans h1_ hq, by omega, by omega⟩)) ((below_set (j := 5) (v := (.slice B5 l5.length d5)) (below_set (j := 4) (v := (.int .i64 e2)) (below_set (j := 3) (v := (.int .i64 e1)) B.out GE3.out) GE3.out) GE3.out)).size); have O5_ := am (Kd.N_mono (ok' := fun q => w.heap.size ≤ q ∧ q ≠ g2 ∧ q ≠ g3) (Kd.N_below (Kd.N_far (p := ⟨g3, 5, none⟩) (Kd.N_far (p := ⟨g3, 4, none⟩) (Kd.N_far (p := ⟨g3, 3, none⟩) (Kd.N_mono O5.out (fun q hq => (⟨hq, hq.2.2⟩ : _ ∧ q ≠ g3))) (fun q hq => hq.2) (.int .i64 e1)) (fun q hq => hq.2) (.int .i64 e2)) (fun q hq => hq.2) (.slice B5 l5.length d5)) hb) (fun q hq => hq.1)); have n1_ := am (blk_below (blk_far (p := ⟨g3, 5, none⟩) (blk_far (p := ⟨g3, 4, none⟩) (blk_far (p := ⟨g3, 3, none⟩) X1.out ne13 (.int .i64 e1)) ne13 (.int .i64 e2)) ne13 (.slice B5 l5.length d5)) hb); have n2_ := am (blk_below (blk_far (p := ⟨g3, 5, none⟩) (blk_far (p := ⟨g3, 4, none⟩) (blk_far (p := ⟨g3, 3, none⟩) X2.out ne23 (.int .i64 e1)) ne23 (.int .i64 e2)) ne23 (.slice B5 l5.length d5)) hb); have n3_ := am (blk_below (blk_put (cs' := #[(.int .i64 s.f0), (.int .i64 s.f1), (.int .i64 s.f2), (.int .i64 e1), (.int .i64 e2), (.slice B5 l5.length d5), (.slice none 0 0), (.slice none 0 0)]) (blk_put (cs' := #[(.int .i64 s.f0), (.int .i64 s.f1), (.int .i64 s.f2), (.int .i64 e1), (.int .i64 e2), (.slice none 0 0), (.slice none 0 0), (.slice none 0 0)]) (blk_put (cs' := #[(.int .i64 s.f0), (.int .i64 s.f1), (.int .i64 s.f2), (.int .i64 e1), (.int .i64 0), (.slice none 0 0), (.slice none 0 0), (.slice none 0 0)]) X3.out 3 (.int .i64 e1) rfl) 4 (.int .i64 e2) rfl) 5 (.slice B5 l5.length d5) rfl) hb); have n4_ := am (below_step (below_set (j := 5) (v := (.slice B5 l5.length d5)) (below_set (j := 4) (v := (.int .i64 e2)) (below_set (j := 3) (v := (.int .i64 e1)) B.out GE3.out) GE3.out) GE3.out) hb); clear O5 X1 X2 X3 B; have X1 := n1_; have X2 := n2_; have X3 := n3_; have B := n4_; clear n1_ n2_ n3_ n4_; (try clear yp0 yp1 yp2 yp3 yp4 yp5 yp6 yp7); (try clear yo0 yo1 yo2 yo3 yo4 yo5 yo6 yo7); (try clear fo0 fo1 fo2 fo3 fo4 fo5 fo6 fo7); have O5 := O5_; have O6 := O6_; clear O5_ O6_ hn hb; obtain ⟨B6, d6, rfl⟩ := Kd.N_slice O6.out; have yp0 : w5.cell? ⟨g1, 0, none⟩ = some (.int .i64 s.f0) := blk_cell X1.out 0; have yo0 : w5.cell? ⟨g3, 0, none⟩ = some (.int .i64 s.f0) := blk_cell X3.out 0; have fo0 := blk_frozen X3.out 0; have yp1 : w5.cell? ⟨g1, 1, none⟩ = some (.int .i64 s.f1) := blk_cell X1.out 1; have yo1 : w5.cell? ⟨g3, 1, none⟩ = some (.int .i64 s.f1) := blk_cell X3.out 1; have fo1 := blk_frozen X3.out 1; have yp2 : w5.cell? ⟨g1, 2, none⟩ = some (.int .i64 s.f2) := blk_cell X1.out 2; have yo2 : w5.cell? ⟨g3, 2, none⟩ = some (.int .i64 s.f2) := blk_cell X3.out 2; have fo2 := blk_frozen X3.out 2; have yp3 : w5.cell? ⟨g1, 3, none⟩ = some (.int .i64 s.f3.f0) := blk_cell X1.out 3; have yo3 : w5.cell? ⟨g3, 3, none⟩ = some (.int .i64 e1) := blk_cell X3.out 3; have fo3 := blk_frozen X3.out 3; have yp4 : w5.cell? ⟨g1, 4, none⟩ = some (.int .i64 s.f3.f1) := blk_cell X1.out 4; have yo4 : w5.cell? ⟨g3, 4, none⟩ = some (.int .i64 e2) := blk_cell X3.out 4; have fo4 := blk_frozen X3.out 4; have yp5 : w5.cell? ⟨g1, 5, none⟩ = some (.slice A5 s.f3.f2.length c5) := blk_cell X1.out 5; have yo5 : w5.cell? ⟨g3, 5, none⟩ = some (.slice B5 l5.length d5) := blk_cell X3.out 5; have fo5 := blk_frozen X3.out 5; have yp6 : w5.cell? ⟨g1, 6, none⟩ = some (.slice A6 s.f4.length c6) := blk_cell X1.out 6; have yo6 : w5.cell? ⟨g3, 6, none⟩ = some (.slice none 0 0) := blk_cell X3.out 6; have fo6 := blk_frozen X3.out 6; have yp7 : w5.cell? ⟨g1, 7, none⟩ = some (.slice A7 s.f5.length c7) := blk_cell X1.out 7; have yo7 : w5.cell? ⟨g3, 7, none⟩ = some (.slice none 0 0) := blk_cell X3.out 7; have fo7 := blk_frozen X3.out 7) | ((with_reducible refine gate_callee (f := 56) rfl ?_); refine goesL_ (some 23) rfl rfl Tryz.func56 (by kernel_rfl) rfl #[.slice A7 s.f5.length c7] rfl (by (try simp only [List.map_toArray, List.map_cons, List.map_nil]); first | done | rfl) ?_; (with_reducible refine ((ihS k (by omega) A7 c7 s.f5 l7 _ (Kd.C_below H7.out (below_set (j := 6) (v := (.slice B6 l6.length d6)) B.out GE3.out)) L7.out HB7.out)).mono ?_); rintro e w6 ⟨v7, rfl, hn, hb⟩; refine ⟨_, rfl, ?_⟩; have O7_ := am (Kd.N_lower (Kd.N_mono (ok' := fun q => w.heap.size ≤ q ∧ q ≠ g2 ∧ q ≠ g3) hn (fun q hq => by have h1_ := ((below_set (j := 6) (v := (.slice B6 l6.length d6)) B.out GE3.out)).size; have h2_ := blk_lt (blk_far (p := ⟨g3, 6, none⟩) X2.out ne23 (.slice B6 l6.length d6)); have h3_ := blk_lt (blk_put (cs' := #[(.int .i64 s.f0), (.int .i64 s.f1), (.int .i64 s.f2), (.int .i64 e1), (.int .i64 e2), (.slice B5 l5.length d5), (.slice B6 l6.length d6), (.slice none 0 0)]) X3.out 6 (.slice B6 l6.length d6) rfl); exact ⟨Nat.le_trans h1_ hq, by omega, by omega⟩)) ((below_set (j := 6) (v := (.slice B6 l6.length d6)) B.out GE3.out)).size); have O5_ := am (Kd.N_mono (ok' := fun q => w.heap.size ≤ q ∧ q ≠ g2 ∧ q ≠ g3) (Kd.N_below (Kd.N_far (p := ⟨g3, 6, none⟩) (Kd.N_mono O5.out (fun q hq => (⟨hq, hq.2.2⟩ : _ ∧ q ≠ g3))) (fun q hq => hq.2) (.slice B6 l6.length d6)) hb) (fun q hq => hq.1)); have O6_ := am (Kd.N_mono (ok' := fun q => w.heap.size ≤ q ∧ q ≠ g2 ∧ q ≠ g3) (Kd.N_below (Kd.N_far (p := ⟨g3, 6, none⟩) (Kd.N_mono O6.out (fun q hq => (⟨hq, hq.2.2⟩ : _ ∧ q ≠ g3))) (fun q hq => hq.2) (.slice B6 l6.length d6)) hb) (fun q hq => hq.1)); have n1_ := am (blk_below (blk_far (p := ⟨g3, 6, none⟩) X1.out ne13 (.slice B6 l6.length d6)) hb); have n2_ := am (blk_below (blk_far (p := ⟨g3, 6, none⟩) X2.out ne23 (.slice B6 l6.length d6)) hb); have n3_ := am (blk_below (blk_put (cs' := #[(.int .i64 s.f0), (.int .i64 s.f1), (.int .i64 s.f2), (.int .i64 e1), (.int .i64 e2), (.slice B5 l5.length d5), (.slice B6 l6.length d6), (.slice none 0 0)]) X3.out 6 (.slice B6 l6.length d6) rfl) hb); have n4_ := am (below_step (below_set (j := 6) (v := (.slice B6 l6.length d6)) B.out GE3.out) hb); clear O5 O6 X1 X2 X3 B; have X1 := n1_; have X2 := n2_; have X3 := n3_; have B := n4_; clear n1_ n2_ n3_ n4_; (try clear yp0 yp1 yp2 yp3 yp4 yp5 yp6 yp7); (try clear yo0 yo1 yo2 yo3 yo4 yo5 yo6 yo7); (try clear fo0 fo1 fo2 fo3 fo4 fo5 fo6 fo7); have O5 := O5_; have O6 := O6_; have O7 := O7_; clear O5_ O6_ O7_ hn hb; obtain ⟨B7, d7, rfl⟩ := Kd.N_slice O7.out; have yp0 : w6.cell? ⟨g1, 0, none⟩ = some (.int .i64 s.f0) := blk_cell X1.out 0; have yo0 : w6.cell? ⟨g3, 0, none⟩ = some (.int .i64 s.f0) := blk_cell X3.out 0; have fo0 := blk_frozen X3.out 0; have yp1 : w6.cell? ⟨g1, 1, none⟩ = some (.int .i64 s.f1) := blk_cell X1.out 1; have yo1 : w6.cell? ⟨g3, 1, none⟩ = some (.int .i64 s.f1) := blk_cell X3.out 1; have fo1 := blk_frozen X3.out 1; have yp2 : w6.cell? ⟨g1, 2, none⟩ = some (.int .i64 s.f2) := blk_cell X1.out 2; have yo2 : w6.cell? ⟨g3, 2, none⟩ = some (.int .i64 s.f2) := blk_cell X3.out 2; have fo2 := blk_frozen X3.out 2; have yp3 : w6.cell? ⟨g1, 3, none⟩ = some (.int .i64 s.f3.f0) := blk_cell X1.out 3; have yo3 : w6.cell? ⟨g3, 3, none⟩ = some (.int .i64 e1) := blk_cell X3.out 3; have fo3 := blk_frozen X3.out 3; have yp4 : w6.cell? ⟨g1, 4, none⟩ = some (.int .i64 s.f3.f1) := blk_cell X1.out 4; have yo4 : w6.cell? ⟨g3, 4, none⟩ = some (.int .i64 e2) := blk_cell X3.out 4; have fo4 := blk_frozen X3.out 4; have yp5 : w6.cell? ⟨g1, 5, none⟩ = some (.slice A5 s.f3.f2.length c5) := blk_cell X1.out 5; have yo5 : w6.cell? ⟨g3, 5, none⟩ = some (.slice B5 l5.length d5) := blk_cell X3.out 5; have fo5 := blk_frozen X3.out 5; have yp6 : w6.cell? ⟨g1, 6, none⟩ = some (.slice A6 s.f4.length c6) := blk_cell X1.out 6; have yo6 : w6.cell? ⟨g3, 6, none⟩ = some (.slice B6 l6.length d6) := blk_cell X3.out 6; have fo6 := blk_frozen X3.out 6; have yp7 : w6.cell? ⟨g1, 7, none⟩ = some (.slice A7 s.f5.length c7) := blk_cell X1.out 7; have yo7 : w6.cell? ⟨g3, 7, none⟩ = some (.slice none 0 0) := blk_cell X3.out 7; have fo7 := blk_frozen X3.out 7; have yr0 : w6.cell? ⟨g2, 0, none⟩ = some (.int .i64 0) := blk_cell X2.out 0; have fr0 := blk_frozen X2.out 0; have yr1 : w6.cell? ⟨g2, 1, none⟩ = some (.int .i64 0) := blk_cell X2.out 1; have fr1 := blk_frozen X2.out 1; have yr2 : w6.cell? ⟨g2, 2, none⟩ = some (.int .i64 0) := blk_cell X2.out 2; have fr2 := blk_frozen X2.out 2; have yr3 : w6.cell? ⟨g2, 3, none⟩ = some (.int .i64 0) := blk_cell X2.out 3; have fr3 := blk_frozen X2.out 3; have yr4 : w6.cell? ⟨g2, 4, none⟩ = some (.int .i64 0) := blk_cell X2.out 4; have fr4 := blk_frozen X2.out 4; have yr5 : w6.cell? ⟨g2, 5, none⟩ = some (.slice none 0 0) := blk_cell X2.out 5; have fr5 := blk_frozen X2.out 5; have yr6 : w6.cell? ⟨g2, 6, none⟩ = some (.slice none 0 0) := blk_cell X2.out 6; have fr6 := blk_frozen X2.out 6; have yr7 : w6.cell? ⟨g2, 7, none⟩ = some (.slice none 0 0) := blk_cell X2.out 7; have fr7 := blk_frozen X2.out 7) | fail)
 refine bodyPost_ret (results_cell_row rfl _ _ g2 58 #[(.int .i64 s.f0), (.int .i64 s.f1), (.int .i64 s.f2), (.int .i64 e1), (.int .i64 e2), (.slice B5 l5.length d5), (.slice B6 l6.length d6), (.slice B7 l7.length d7)] (0, 0) _ rfl (blk_put (cs' := #[(.int .i64 s.f0), (.int .i64 s.f1), (.int .i64 s.f2), (.int .i64 e1), (.int .i64 e2), (.slice B5 l5.length d5), (.slice B6 l6.length d6), (.slice B7 l7.length d7)]) (blk_put (cs' := #[(.int .i64 s.f0), (.int .i64 s.f1), (.int .i64 s.f2), (.int .i64 e1), (.int .i64 e2), (.slice B5 l5.length d5), (.slice B6 l6.length d6), (.slice none 0 0)]) (blk_put (cs' := #[(.int .i64 s.f0), (.int .i64 s.f1), (.int .i64 s.f2), (.int .i64 e1), (.int .i64 e2), (.slice B5 l5.length d5), (.slice none 0 0), (.slice none 0 0)]) (blk_put (cs' := #[(.int .i64 s.f0), (.int .i64 s.f1), (.int .i64 s.f2), (.int .i64 e1), (.int .i64 e2), (.slice none 0 0), (.slice none 0 0), (.slice none 0 0)]) (blk_put (cs' := #[(.int .i64 s.f0), (.int .i64 s.f1), (.int .i64 s.f2), (.int .i64 e1), (.int .i64 0), (.slice none 0 0), (.slice none 0 0), (.slice none 0 0)]) (blk_put (cs' := #[(.int .i64 s.f0), (.int .i64 s.f1), (.int .i64 s.f2), (.int .i64 0), (.int .i64 0), (.slice none 0 0), (.slice none 0 0), (.slice none 0 0)]) (blk_put (cs' := #[(.int .i64 s.f0), (.int .i64 s.f1), (.int .i64 0), (.int .i64 0), (.int .i64 0), (.slice none 0 0), (.slice none 0 0), (.slice none 0 0)]) (blk_put (cs' := #[(.int .i64 s.f0), (.int .i64 0), (.int .i64 0), (.int .i64 0), (.int .i64 0), (.slice none 0 0), (.slice none 0 0), (.slice none 0 0)]) (blk_far (p := ⟨g3, 7, none⟩) X2.out ne23 (.slice B7 l7.length d7)) 0 (.int .i64 s.f0) rfl) 1 (.int .i64 s.f1) rfl) 2 (.int .i64 s.f2) rfl) 3 (.int .i64 e1) rfl) 4 (.int .i64 e2) rfl) 5 (.slice B5 l5.length d5) rfl) 6 (.slice B6 l6.length d6) rfl) 7 (.slice B7 l7.length d7) rfl) Tryz.underlying58 rfl (by kernel_rfl)) rfl ?_
 have E5 := (Kd.N_mono (ok' := fun q => w.heap.size ≤ q) (Kd.N_far (p := ⟨g2, 7, none⟩) (Kd.N_far (p := ⟨g2, 6, none⟩) (Kd.N_far (p := ⟨g2, 5, none⟩) (Kd.N_far (p := ⟨g2, 4, none⟩) (Kd.N_far (p := ⟨g2, 3, none⟩) (Kd.N_far (p := ⟨g2, 2, none⟩) (Kd.N_far (p := ⟨g2, 1, none⟩) (Kd.N_far (p := ⟨g2, 0, none⟩) (Kd.N_mono (Kd.N_far (p := ⟨g3, 7, none⟩) (Kd.N_mono O5.out (fun q hq => (⟨hq, hq.2.2⟩ : _ ∧ q ≠ g3))) (fun q hq => hq.2) (.slice B7 l7.length d7)) (fun q hq => (⟨hq.1, hq.1.2.1⟩ : _ ∧ q ≠ g2))) (fun q hq => hq.2) (.int .i64 s.f0)) (fun q hq => hq.2) (.int .i64 s.f1)) (fun q hq => hq.2) (.int .i64 s.f2)) (fun q hq => hq.2) (.int .i64 e1)) (fun q hq => hq.2) (.int .i64 e2)) (fun q hq => hq.2) (.slice B5 l5.length d5)) (fun q hq => hq.2) (.slice B6 l6.length d6)) (fun q hq => hq.2) (.slice B7 l7.length d7)) (fun q hq => hq.1.1))
 have E6 := (Kd.N_mono (ok' := fun q => w.heap.size ≤ q) (Kd.N_far (p := ⟨g2, 7, none⟩) (Kd.N_far (p := ⟨g2, 6, none⟩) (Kd.N_far (p := ⟨g2, 5, none⟩) (Kd.N_far (p := ⟨g2, 4, none⟩) (Kd.N_far (p := ⟨g2, 3, none⟩) (Kd.N_far (p := ⟨g2, 2, none⟩) (Kd.N_far (p := ⟨g2, 1, none⟩) (Kd.N_far (p := ⟨g2, 0, none⟩) (Kd.N_mono (Kd.N_far (p := ⟨g3, 7, none⟩) (Kd.N_mono O6.out (fun q hq => (⟨hq, hq.2.2⟩ : _ ∧ q ≠ g3))) (fun q hq => hq.2) (.slice B7 l7.length d7)) (fun q hq => (⟨hq.1, hq.1.2.1⟩ : _ ∧ q ≠ g2))) (fun q hq => hq.2) (.int .i64 s.f0)) (fun q hq => hq.2) (.int .i64 s.f1)) (fun q hq => hq.2) (.int .i64 s.f2)) (fun q hq => hq.2) (.int .i64 e1)) (fun q hq => hq.2) (.int .i64 e2)) (fun q hq => hq.2) (.slice B5 l5.length d5)) (fun q hq => hq.2) (.slice B6 l6.length d6)) (fun q hq => hq.2) (.slice B7 l7.length d7)) (fun q hq => hq.1.1))
 have E7 := (Kd.N_mono (ok' := fun q => w.heap.size ≤ q) (Kd.N_far (p := ⟨g2, 7, none⟩) (Kd.N_far (p := ⟨g2, 6, none⟩) (Kd.N_far (p := ⟨g2, 5, none⟩) (Kd.N_far (p := ⟨g2, 4, none⟩) (Kd.N_far (p := ⟨g2, 3, none⟩) (Kd.N_far (p := ⟨g2, 2, none⟩) (Kd.N_far (p := ⟨g2, 1, none⟩) (Kd.N_far (p := ⟨g2, 0, none⟩) (Kd.N_mono (Kd.N_far (p := ⟨g3, 7, none⟩) (Kd.N_mono O7.out (fun q hq => (⟨hq, hq.2.2⟩ : _ ∧ q ≠ g3))) (fun q hq => hq.2) (.slice B7 l7.length d7)) (fun q hq => (⟨hq.1, hq.1.2.1⟩ : _ ∧ q ≠ g2))) (fun q hq => hq.2) (.int .i64 s.f0)) (fun q hq => hq.2) (.int .i64 s.f1)) (fun q hq => hq.2) (.int .i64 s.f2)) (fun q hq => hq.2) (.int .i64 e1)) (fun q hq => hq.2) (.int .i64 e2)) (fun q hq => hq.2) (.slice B5 l5.length d5)) (fun q hq => hq.2) (.slice B6 l6.length d6)) (fun q hq => hq.2) (.slice B7 l7.length d7)) (fun q hq => hq.1.1))
 exact ⟨B5, d5, B6, d6, B7, d7, rfl, k58_mkF _ _ ⟨s.f0, s.f1, s.f2, ⟨e1, e2, l5⟩, l6, l7⟩ (Kd.N_reads' E5).2.1 (Kd.N_F E5) (Kd.N_reads' E6).2.1 (Kd.N_F E6) (Kd.N_reads' E7).2.1 (Kd.N_F E7), (below_set (j := 7) (v := (.slice B7 l7.length d7)) (below_set (j := 6) (v := (.slice B6 l6.length d6)) (below_set (j := 5) (v := (.slice B5 l5.length d5)) (below_set (j := 4) (v := (.int .i64 e2)) (below_set (j := 3) (v := (.int .i64 e1)) (below_set (j := 2) (v := (.int .i64 s.f2)) (below_set (j := 1) (v := (.int .i64 s.f1)) (below_set (j := 0) (v := (.int .i64 s.f0)) (below_set (j := 7) (v := (.slice B7 l7.length d7)) B.out GE3.out) GE2.out) GE2.out) GE2.out) GE2.out) GE2.out) GE2.out) GE2.out) GE2.out)⟩
theorem laws_toStmtS.step (k : Nat) (ihT : ∀ m, m < k → laws_toStmt.CallsAt m) : laws_toStmtS.CallsAt k := by
 intro A0 c0 l0 r w hr0 hc0 h
 cases k with
 | zero => exact absurd h (by simp [laws_toStmtS.f])
 | succ k =>
 simp only [laws_toStmtS.f] at h
 by_cases c2 : l0.length ≤ 2513169434916
 case neg =>
  rw [if_neg c2] at h
  exact absurd h (by simp)
 rw [if_pos c2] at h
 have HR0 := am hr0
 have HC0 := am hc0
 have H' := am h
 have C2 := am c2
 clear hr0 hc0 h c2
 have p0 := eq_true (show 0 ≤ (l0.length : Int) by omega)
 have p1 : decide (0 ≤ (l0.length : Int)) = true := decide_eq_true (by omega)
 go_enter Tryz.func56, Tryz.ntmps56
 go_wp2_with (first | ((with_reducible refine gate_dst (N := 7) rfl ?_); refine Kd.N_make k58 _ 58 rfl (N' := 7) rfl 33 _ _ rfl (l0.length : Int) rfl rfl Tryz.underlying33 (.agg #[(.int .i64 0), (.int .i64 0), (.int .i64 0), (.int .i64 0), (.int .i64 0), (.slice none 0 0), (.slice none 0 0), (.slice none 0 0)]) 112 info58 rfl (by decide) (by omega) z58 (ok := fun q => w.heap.size ≤ q) (okp := fun _ => False) (k58_mkF _ _ z58 (Nat.le_refl _) (Kd.F_nil _ _ _) (Nat.le_refl _) (Kd.F_nil _ _ _) (Nat.le_refl _) (Kd.F_nil _ _ _)) (fun _ hq => hq.elim) (Nat.le_refl _) (by omega) (by have := C2.out; omega) (Below.refl _ _) (Nat.le_refl _) ?_; intro v3 w4 hn hb hg_ hnew_; clear hg_ hnew_; simp only [Int.toNat_natCast] at hn; have HO := am hn; have HB := am hb; clear hn hb) | fail)
 go_loopg [4] k (fun kq v4 w' => ∃ (x3 : List S58) (x4 : Int), v4 = .int .i64 x4 ∧ Aside0 (laws_toStmtS.l0 kq l0 x3 x4 = some r) ∧ Aside0 (kq ≤ k) ∧ Aside0 (Kd.N k58 58 w' w.heap.size (fun q => w.heap.size ≤ q) v3 x3) ∧ Aside0 (Below w.heap.size w w'))
 case atStart => exact ⟨_, 0, rfl, H', ⟨Nat.le_refl _⟩, HO, HB⟩
 case round =>
  clear H' p0 p1
  obtain ⟨x3, x4, rfl, HA, HK1, HO, HB⟩ := hrel
  cases gk with
  | zero => exact absurd HA.out (by simp [laws_toStmtS.l0])
  | succ k1 =>
   have H := HA.out
   clear HA
   simp only [laws_toStmtS.l0] at H
   by_cases c6 : x4 < (l0.length : Int)
   ·rw [if_pos c6] at H
    by_cases c7 : 0 ≤ x4
    ·rw [if_pos c7] at H
     obtain ⟨s, hs, H⟩ := bsm H
     by_cases c9 : x4 < (x3.length : Int)
     ·rw [if_pos c9] at H
      have HS := am hs
      have H' := am H
      clear hs H
      obtain ⟨ad, A5, c5, A6, d6, A7, d7, e0, x0, x1, x2, y3, y4, y5, y6, y7, l5, g5, l6, g6, l7, g7⟩ := at_T113 HR0.out x4 c7 c6
      cases e0
      replace x0 := (HB.out.cell (World.block_lt_of_cell? w _ x0)).trans x0
      replace x1 := (HB.out.cell (World.block_lt_of_cell? w _ x1)).trans x1
      replace x2 := (HB.out.cell (World.block_lt_of_cell? w _ x2)).trans x2
      replace y3 := (HB.out.cell (World.block_lt_of_cell? w _ y3)).trans y3
      replace y4 := (HB.out.cell (World.block_lt_of_cell? w _ y4)).trans y4
      replace y5 := (HB.out.cell (World.block_lt_of_cell? w _ y5)).trans y5
      replace y6 := (HB.out.cell (World.block_lt_of_cell? w _ y6)).trans y6
      replace y7 := (HB.out.cell (World.block_lt_of_cell? w _ y7)).trans y7
      obtain ⟨go, co, eo, gb, gl, cl, hgc⟩ := Kd.N_form HO.out (by omega)
      (first | cases eo | (injection eo with ea_ en_ ec_; (first | subst ea_ | (injection ea_ with ea_; subst ea_)); subst ec_; clear en_))
      have G5 := am (Kd.C_below g5 HB.out)
      have G6 := am (Kd.C_below g6 HB.out)
      have G7 := am (Kd.C_below g7 HB.out)
      have L5 := am l5
      have L6 := am l6
      have L7 := am l7
      have GB := am gb
      have GL := am gl
      have C7 := am c7
      have C9 := am c9
      have c6b : decide (x4 < (l0.length : Int)) = true := decide_eq_true c6
      have q0 := eq_true c7
      have q1 := eq_true c6
      have q2 := eq_true c9
      clear g5 g6 g7 l5 l6 l7 gb gl hgc c6 c7 c9
      go_wp2_with (first | ((with_reducible refine gate_callee (f := 79) rfl ?_); refine goesL_ (some 20) rfl rfl Tryz.func79 (by kernel_rfl) rfl #[.agg #[(.int .i64 (rd_T113 l0 x4).f0), (.int .i64 (rd_T113 l0 x4).f1), (.int .i64 (rd_T113 l0 x4).f2), (.int .i64 (rd_T113 l0 x4).f3.f0), (.int .i64 (rd_T113 l0 x4).f3.f1), (.slice A5 (rd_T113 l0 x4).f3.f2.length c5), (.slice A6 (rd_T113 l0 x4).f4.length d6), (.slice A7 (rd_T113 l0 x4).f5.length d7)]] rfl (by (try simp only [List.map_toArray, List.map_cons, List.map_nil]); first | done | rfl) ?_; (with_reducible refine (ihT k1 (by have := HK1.out; omega) (rd_T113 l0 x4) A5 c5 A6 d6 A7 d7 s _ G5.out L5.out G6.out L6.out G7.out L7.out HS.out).mono ?_); rintro e w11 ⟨B5, e5, B6, e6, B7, e7, rfl, hfk, hb⟩; refine ⟨_, rfl, ?_⟩; have FKX := am hfk; have B11 := am (below_step HB.out hb); have HO2 := am (Kd.N_below HO.out hb); clear hb hfk; obtain ⟨c, hcl, _, hcc, hfr⟩ := Kd.N_elem HO2.out z58 x4 C7.out C9.out; have HCL := am hcl; have HCC := am hcc; clear hcl hcc hfr) | ((with_reducible refine gate_store (t := 58) (p := 21) rfl ?_); refine stop_ ?_) | fail)
      refine ⟨?_⟩
      refine Kd.N_store k58 (w0 := w11) w.heap.size rfl rfl 58 (.tmp 21) (.tmp 20) rfl 58 (g := go) (o' := x4.toNat * 8) x4 0 x3 s _ [.int .i64 s.f0, .int .i64 s.f1, .int .i64 s.f2, .int .i64 s.f3.f0, .int .i64 s.f3.f1, .slice B5 s.f3.f2.length e5, .slice B6 s.f4.length e6, .slice B7 s.f5.length e7] c (fun q => w.heap.size ≤ q) ?okp ?ha ?ho rfl rfl ?ht ?h1 HO2.out C7.out C9.out HCL.out HCC.out ?hj ?hM ?hp (Below.refl _ _) ?_
      (case ha => first | rfl | (go_simp; done) | (go_simp; rfl))
      (case ho => rfl)
      (case ht => kernel_rfl)
      (case h1 => intro q hq; simp only [List.mem_cons, List.not_mem_nil, or_false] at hq; rcases hq with rfl | rfl | rfl | rfl | rfl | rfl | rfl | rfl <;> rfl)
      (case hj => exact Nat.le_refl 8)
      (case hM => have hd : c.drop 8 = [] := List.drop_eq_nil_of_le (Nat.le_of_eq HCL.out); show Kd.FK _ _ _ _ ([] ++ _ ++ c.drop 8); rw [hd]; exact FKX.out)
      (case hp => intro q hq; have := GL.out; have := HB.out.size; exact ⟨by omega, by omega⟩)
      intro w13 hn hb hg_; clear hg_; have HO3 := am hn; have HB3 := am (B11.out.trans hb); clear hn hb
      go_wp2
      go_roundg k1
      case measure => have := HK1.out; omega
      case rel => exact ⟨_, wrap64 (x4 + 1), sd_, H', ⟨by have := HK1.out; omega⟩, HO3, HB3⟩
     rw [if_neg c9] at H
     exact absurd H (by simp)
    rw [if_neg c7] at H
    exact absurd H (by simp)
   rw [if_neg c6] at H
   have c6b : decide (x4 < (l0.length : Int)) = false := decide_eq_false c6
   clear c6
   obtain rfl := Option.some.inj H
   go_wp2
   go_ret
   exact ⟨_, rfl, HO.out, HB.out⟩
theorem laws_toStmtS.calls_all (k : Nat) : laws_toStmtS.CallsAt k ∧ laws_toStmt.CallsAt k := by
 induction k using Nat.strongRecOn with
 | _ k ih => exact ⟨laws_toStmtS.step k (fun m hm => (ih m hm).2), laws_toStmt.step k (fun m hm => (ih m hm).1)⟩
theorem laws_toStmtS.calls (k : Nat) : laws_toStmtS.CallsAt k := (laws_toStmtS.calls_all k).1
theorem laws_toStmtSS.mono_l : ∀ k, (∀ y0 y1 y2, LeO (laws_toStmtSS.l0 k y0 y1 y2) (laws_toStmtSS.l0 (k + 1) y0 y1 y2))
 | 0 => fun _ _ _ r h => by simp [laws_toStmtSS.l0] at h
 | k + 1 => by
  have ih0 := laws_toStmtSS.mono_l k
  ·intro y0 y1 y2
   unfold laws_toStmtSS.l0
   have m0 := @laws_toStmtS.mono
   exact mo_
theorem laws_toStmtSS.mono : ∀ a0 k, LeO (laws_toStmtSS.f k a0) (laws_toStmtSS.f (k + 1) a0) := by
 intro a0 k
 have ih0 := laws_toStmtSS.mono_l k
 unfold laws_toStmtSS.f
 have m0 := @laws_toStmtS.mono
 exact mo_
theorem laws_toStmtSS.calls (k : Nat) (A0 : Option Addr) (c0 : Nat) (l0 : List (List (S113))) (r : List (List (S58))) (w : World) (hr0 : Kd.C (Kd.slice 113 k113) w A0 l0.length l0) (hc0 : l0.length ≤ c0) (h : laws_toStmtSS.f k l0 = some r) :
  Calls Tryz.prog 31 #[.slice A0 l0.length c0] w fun e w' => ∃ v0_ : Value, e = .returned (v0_) ∧ Kd.N (Kd.slice 58 k58) 33 w' w.heap.size (fun k_ => (w.heap.size ≤ k_)) v0_ r ∧ Below w.heap.size w w' := by
 have HR0 := am hr0
 have HC0 := am hc0
 clear hr0 hc0
 have HB := am (Below.refl w.heap.size w)
 have H : (if 0 ≤ (l0.length : Int) then (if ((l0.length : Int) : Int).toNat ≤ 11728124029610 then (laws_toStmtSS.l0 k l0 (List.replicate ((l0.length : Int) : Int).toNat []) 0) else (none)) else (none)) = some r := h
 clear h
 by_cases c2 : 0 ≤ (l0.length : Int)
 ·rw [if_pos c2] at H
  have c2b0 := eq_true c2
  have c2b1 : decide (0 ≤ (l0.length : Int)) = true := decide_eq_true c2
  clear c2
  by_cases c3 : ((l0.length : Int) : Int).toNat ≤ 11728124029610
  ·rw [if_pos c3] at H
   have c3b0 := eq_true c3
   have c3b1 : decide (((l0.length : Int) : Int).toNat ≤ 11728124029610) = true := decide_eq_true c3
   clear c3
   obtain ⟨y22, hy_⟩ : ∃ y_ : List (List (S58)), y_ = (List.replicate ((l0.length : Int) : Int).toNat []) := ⟨_, rfl⟩
   replace H : (laws_toStmtSS.l0 k l0 y22 0) = some r := rx_
   have Ny22 := am hy_
   clear hy_
   have H' := am H
   clear H
   go_enter Tryz.func31, Tryz.ntmps31
   go_wp2_with (first | ((with_reducible refine gate_dst (N := 7) rfl ?_); refine Kd.N_make (Kd.slice 58 k58) _ 33 rfl (N' := 7) rfl 24 _ _ rfl (l0.length : Int) rfl rfl Tryz.underlying24 (.slice none 0 0) 24 info33 rfl (by decide) (by omega) [] (ok := fun k_ => w.heap.size ≤ k_) (okp := fun _ => False) (Kd.FK_slice_mk (Nat.le_refl _) (Kd.F_nil _ _ _)) (fun _ hk => hk.elim) (Nat.le_refl _) (of_decide_eq_true asm_) (Nat.le_trans (Nat.mul_le_mul_right _ (of_decide_eq_true asm_ : (l0.length : Int).toNat ≤ 11728124029610)) (by omega)) (Below.refl _ _) (Nat.le_refl _) ?_; intro v23 w4 ho5 hb hg_ hnew_; clear hg_ hnew_; (first | rw [← Ny22.out] at ho5 | (simp only [Int.reduceToNat] at ho5; rw [← Ny22.out] at ho5)); have HO25 := am (Kd.N_lower (Kd.N_mono (ok' := fun k_ => (w.heap.size ≤ k_)) ho5 (fun k_ hk_ => (Nat.le_trans (below_size ab2_) hk_))) (below_size ab2_)); replace HB := am (below_step ab2_ hb); clear hb ho5))
   go_loopg [4] k (fun kq v4 w' => ∃ (x3_1 : List (List (S58))) (x4_1 : Int), v4 = .int .i64 x4_1 ∧ Aside0 (laws_toStmtSS.l0 kq l0 x3_1 x4_1 = some r) ∧ Aside0 (kq ≤ k) ∧ Aside0 (Kd.N (Kd.slice 58 k58) 33 w' w.heap.size (fun k_ => (w.heap.size ≤ k_)) v23 x3_1) ∧ Aside0 (Below w.heap.size w w'))
   case atStart => exact ⟨(y22), (0), sd_, H', ⟨Nat.le_refl _⟩, ⟨aNw_ HO25.out⟩, ⟨ab2_⟩⟩
   case round =>
    clear H'
    try clear c2
    try clear c2b0
    try clear c2b1
    try clear c3
    try clear c3b0
    try clear c3b1
    obtain ⟨x3_1, x4_1, rfl, HA, HK1, HO_3, HB⟩ := hrel
    cases gk with
    | zero => exact absurd HA.out (by simp [laws_toStmtSS.l0])
    | succ k1 =>
     have H := HA.out
     clear HA
     simp only [laws_toStmtSS.l0] at H
     by_cases c6 : x4_1 < (l0.length : Int)
     ·rw [if_pos c6] at H
      have c6b0 : decide (x4_1 < (l0.length : Int)) = true := decide_eq_true c6
      clear c6
      by_cases c7 : 0 ≤ x4_1
      ·rw [if_pos c7] at H
       have c7b0 : decide (0 ≤ x4_1) = true := decide_eq_true c7
       clear c7
       obtain ⟨t26, A8, H⟩ := bsa H
       (try dsimp only at H)
       by_cases c9 : x4_1 < (x3_1.length : Int)
       ·rw [if_pos c9] at H
        have c9b0 : decide (x4_1 < (x3_1.length : Int)) = true := decide_eq_true c9
        clear c9
        obtain ⟨y27, hy_⟩ : ∃ y_ : List (List (S58)), y_ = (x3_1.set (x4_1 : Int).toNat t26) := ⟨_, rfl⟩
        replace H : (laws_toStmtSS.l0 k1 l0 y27 (wrap64 (x4_1 + 1))) = some r := rx_
        have Ny27 := am hy_
        clear hy_
        have H' := am H
        clear H
        have p28 : 0 ≤ (x4_1 : Int) := of_decide_eq_true asm_
        have q28 : x4_1 < (l0.length : Int) := of_decide_eq_true asm_
        obtain ⟨ad28, A28_0, c28_0, e28, hx28_0, hl28_0, hi28_0⟩ := at_L8 HR0.out x4_1 p28 q28
        cases e28
        replace hx28_0 := (HB.out.cell (World.block_lt_of_cell? w _ hx28_0)).trans hx28_0
        have HR28_0 := am hi28_0
        have HC28_0 := am hl28_0
        clear hi28_0 hl28_0
        replace p28 := eq_true p28
        replace q28 := eq_true q28
        go_wp2_with (first | ((with_reducible refine gate_callee (f := 56) rfl ?_); refine gl_ 20 Tryz.func56 #[.slice A28_0 (rd_L8 l0 x4_1).length c28_0] ?_; (with_reducible refine (laws_toStmtS.calls k1 _ _ (rd_L8 l0 x4_1) t26 _ (aC_ (Kd.C_below HR28_0.out HB.out)) HC28_0.out A8.out).mono ?_); rintro e w11 ⟨v29, rfl, ho0, hb⟩; obtain ⟨Aq_, cq_, rfl⟩ := Kd.N_slice ho0; refine ⟨_, rfl, ?_⟩; have HO30 := am (Kd.N_lower (Kd.N_mono (ok' := fun k_ => (w.heap.size ≤ k_) ∧ some k_ ≠ (v23 : Value).ownBlock) ho0 (fun k_ hk_ => ⟨(Nat.le_trans (below_size ab2_) hk_), (Kd.fresh' (Kd.N_lt (aN_ HO_3.out)) k_ hk_)⟩)) (below_size ab2_)); replace HO_3 := am (Kd.N_elder' (aN_ HO_3.out) (by first | exact Kd.N_base ho0 | exact Kd.N_base (Kd.R_N ho0)) hb); replace HB := am (below_step ab2_ hb); (try clear hb); (try clear ho0); have p10 : 0 ≤ (x4_1 : Int) := of_decide_eq_true asm_; have q10 : (x4_1 : Int) < ((x3_1.length : Int) : Int) := of_decide_eq_true asm_; obtain ⟨go10, co10, eo10, gb10, gl10, cl10, HG10⟩ := Kd.N_form HO_3.out (by omega); (first | cases eo10 | (injection eo10 with ea_ en_ ec_; (first | subst ea_ | (injection ea_ with ea_; subst ea_)); subst ec_; clear en_)); have GB10 := am gb10; have GG10 := am HG10; clear gb10 gl10 HG10; obtain ⟨ce10, hcl10, hM10, hcc10, hfr10⟩ := Kd.N_elem HO_3.out [] (x4_1 : Int) p10 q10; obtain ⟨ua10_0, uc10_0, rfl, ul10_0, ge10_0⟩ := Kd.FK_slice_open hM10; have hx10_0 := hcc10 0 _ rfl; have hf10_0 := hfr10 0; (try simp only [show ((Kd.slice 58 k58)).sz = 1 from rfl, Nat.mul_one, Nat.add_zero] at hx10_0); (try simp only [show ((Kd.slice 58 k58)).sz = 1 from rfl, Nat.mul_one, Nat.add_zero] at hf10_0); clear hcl10 hcc10 hfr10 hM10; replace p10 := eq_true p10; replace q10 := eq_true q10; have HX12 := am (show Kd.N (Kd.slice 58 k58) 33 w11 w.heap.size (fun k_ => (w.heap.size ≤ k_)) (.slice (some ⟨go10, 0, none⟩) x3_1.length co10) x3_1 from (aNw_ (Kd.N_mono HO_3.out (fun _ hk => hk.1)))); obtain ⟨ce12, hcl12, hM12, hcc12, hfr12⟩ := Kd.N_elem HX12.out [] (x4_1 : Int) (of_decide_eq_true asm_) (by have h_ : (x4_1 : Int) < ((x3_1.length : Int) : Int) := of_decide_eq_true asm_; first | exact h_ | (have e_ := (Kd.N_reads' HO_3.out).1; omega) | simpa using h_); obtain ⟨ua12_0, uc12_0, rfl, ul12_0, ge12_0⟩ := Kd.FK_slice_open hM12; have HP12 := Kd.N_seg HX12.out (x4_1 : Int) (of_decide_eq_true asm_) (by have h_ : (x4_1 : Int) < ((x3_1.length : Int) : Int) := of_decide_eq_true asm_; first | exact h_ | (have e_ := (Kd.N_reads' HO_3.out).1; omega) | simpa using h_) (seg := [(.slice Aq_ t26.length cq_)]) (j := 0) hcl12 hcc12 (show 1 ≤ 1 from by decide) (x' := t26) (Kd.FK_slice_mk (Kd.N_reads' (Kd.N_mono (ok' := (fun k_ => ((fun k_ => (w.heap.size ≤ k_))) k_ ∧ k_ ≠ go10)) (HO30.out) (fun k_ hk => ⟨hk.1, fun e_ => (hk.2) (by rw [e_]; rfl)⟩))).2.1 (Kd.N_F (Kd.N_mono (ok' := (fun k_ => ((fun k_ => (w.heap.size ≤ k_))) k_ ∧ k_ ≠ go10)) (HO30.out) (fun k_ hk => ⟨hk.1, fun e_ => (hk.2) (by rw [e_]; rfl)⟩)))) (fun _ hk => hk); have hx12_0 := hcc12 0 _ rfl; (try simp only [show ((Kd.slice 58 k58)).sz = 1 from rfl, Nat.mul_one, Nat.add_zero] at hx12_0); have hf12_0 := hfr12 0; (try simp only [show ((Kd.slice 58 k58)).sz = 1 from rfl, Nat.mul_one, Nat.add_zero] at hf12_0); clear hcl12 hcc12 hfr12 hM12; (try simp only [show ((Kd.slice 58 k58)).sz = 1 from rfl, Nat.mul_one, Nat.add_zero] at HP12); (try simp only [show ((Kd.slice 58 k58)).sz = 1 from rfl, Nat.mul_one, Nat.add_zero] at HP12)) | ((with_reducible refine gate_store (t := 33) (p := 21) rfl ?_); refine store_event (t := 33) (p := 21) (v := ?vo_w13) (w1 := (w11.setCell ⟨go10, (x4_1 : Int).toNat, none⟩ ((.slice Aq_ t26.length cq_)))) ?hg ?ho ?hn ?hr ?_; (case ho => rfl); (case hg => rfl); (case hn => rfl); (case hr => first | (go_simp; done) | (go_simp; rfl)); intro w13 hw; have hg : w11.grownBy w13 (some go10) := (by rw [hw]; exact HP12.2); have hp_ : Kd.N (Kd.slice 58 k58) 33 w13 w.heap.size (fun k_ => (w.heap.size ≤ k_)) (.slice (some ⟨go10, 0, none⟩) x3_1.length co10) y27 := (by rw [hw, Ny27.out]; exact HP12.1); clear HP12; replace HO_3 := am (hp_); replace HB := am ((by rw [hw]; exact below_set (HB.out) GB10.out : Below w.heap.size w w13)); clear HO30 hg hw hp_))
        go_roundg k1
        case measure => have := HK1.out; omega
        case rel => exact ⟨(y27), (wrap64 (x4_1 + 1)), sd_, H', ⟨by have := HK1.out; omega⟩, ⟨aNw_ HO_3.out⟩, ⟨ab2_⟩⟩
       rw [if_neg c9] at H
       exact absurd H (by simp)
      rw [if_neg c7] at H
      exact absurd H (by simp)
     rw [if_neg c6] at H
     have c6b0 : decide (x4_1 < (l0.length : Int)) = false := decide_eq_false c6
     clear c6
     obtain rfl := Option.some.inj H
     go_wp2
     go_ret
     exact ⟨_, ab13_, aNw_ HO_3.out, ab2_⟩
  rw [if_neg c3] at H
  exact absurd H (by simp)
 rw [if_neg c2] at H
 exact absurd H (by simp)
theorem laws_toProgram.mono : ∀ a0 a1 k, LeO (laws_toProgram.f k a0 a1) (laws_toProgram.f (k + 1) a0 a1) := by
 intro a0 a1 k
 unfold laws_toProgram.f
 have m0 := @laws_toIntS.mono
 have m1 := @laws_toStmtSS.mono
 exact mo_
theorem laws_toProgram.calls (k : Nat) (A0_0 : Option Addr) (c0_0 : Nat) (l0_0 : List Int) (A0_1 : Option Addr) (c0_1 : Nat) (l0_1 : List (List (S113))) (r1 : List Int) (r2 : List (List (S58))) (w : World) (hr0_0 : Kd.C (Kd.int .i64) w A0_0 l0_0.length l0_0) (hc0_0 : l0_0.length ≤ c0_0) (hr0_1 : Kd.C (Kd.slice 113 k113) w A0_1 l0_1.length l0_1) (hc0_1 : l0_1.length ≤ c0_1) (h : laws_toProgram.f k l0_0 l0_1 = some (r1, r2)) :
  Calls Tryz.prog 14 #[.agg #[.slice A0_0 l0_0.length c0_0, .slice A0_1 l0_1.length c0_1]] w fun e w' => ∃ v0_ v1_ : Value, e = .returned (.agg #[v0_, v1_]) ∧ Kd.R (Kd.int .i64) 3 w' w.heap.size (fun k_ => (w.heap.size ≤ k_)) v0_ r1 ∧ Kd.N (Kd.slice 58 k58) 33 w' w.heap.size (fun k_ => (w.heap.size ≤ k_) ∧ some k_ ≠ (v0_ : Value).ownBlock) v1_ r2 ∧ Below w.heap.size w w' := by
 have hu38 := Tryz.underlying38
 have hu26 := Tryz.underlying26
 have HR0_0 := am hr0_0
 have HC0_0 := am hc0_0
 clear hr0_0 hc0_0
 have HR0_1 := am hr0_1
 have HC0_1 := am hc0_1
 clear hr0_1 hc0_1
 have HB := am (Below.refl w.heap.size w)
 have H : ((laws_toIntS.f k l0_0).bind fun t21 => ((laws_toStmtSS.f k l0_1).bind fun t22 => (some (t21, t22)))) = some (r1, r2) := h
 clear h
 obtain ⟨t21, A2, H⟩ := bsa H
 (try dsimp only at H)
 obtain ⟨t22, A3, H⟩ := bsa H
 (try dsimp only at H)
 simp only [Option.some.injEq, Prod.mk.injEq] at H
 obtain ⟨rfl, rfl⟩ := H
 go_enter Tryz.func14, Tryz.ntmps14
 go_wp2_with (first | ((with_reducible refine gate_dst (N := 1) rfl ?_); refine box_event rfl (N := 1) rfl (cs := #[.slice A0_0 l0_0.length c0_0, .slice A0_1 l0_1.length c0_1]) (t := 38) rn_ ?_; intro gb23 hg w4 hbox hb; have BK23 := am (hbox); have GW23 := am ((by rw [hg]; exact (below_size ab2_) : w.heap.size ≤ gb23)); have GE23 := am ((by rw [hg]; exact (below_size ab2_) : w.heap.size ≤ gb23)); replace HB := am (below_step ab2_ hb); clear hb hbox hg) | ((with_reducible refine gate_dst (N := 2) rfl ?_); refine box_event rfl (N := 2) rfl (cs := #[.slice none 0 0, .slice none 0 0]) (t := 26) rn_ ?_; intro gb24 hg w5 hbox hb; have BK24 := am (hbox); have GW24 := am ((by rw [hg]; exact (below_size ab31_) : w.heap.size ≤ gb24)); have GE24 := am ((by rw [hg]; exact (below_size ab31_) : w.heap.size ≤ gb24)); replace HB := am (below_step ab31_ hb); have NB23_24 := am ((by rw [hg]; exact Nat.ne_of_lt (blt_ BK23.out) : gb23 ≠ gb24)); have NB24_23 := am ((by rw [hg]; exact Nat.ne_of_gt (blt_ BK23.out) : gb24 ≠ gb23)); replace BK23 := am (bbl_ BK23.out hb); clear hb hbox hg) | ((with_reducible refine gate_dst (N := 3) rfl ?_); refine box_event rfl (N := 3) rfl (cs := #[.slice none 0 0, .slice none 0 0]) (t := 26) rn_ ?_; intro gb25 hg w6 hbox hb; have BK25 := am (hbox); have GW25 := am ((by rw [hg]; exact (below_size ab74_) : w.heap.size ≤ gb25)); have GE25 := am ((by rw [hg]; exact (below_size ab74_) : w.heap.size ≤ gb25)); replace HB := am (below_step ab74_ hb); have NB23_25 := am ((by rw [hg]; exact Nat.ne_of_lt (blt_ BK23.out) : gb23 ≠ gb25)); have NB25_23 := am ((by rw [hg]; exact Nat.ne_of_gt (blt_ BK23.out) : gb25 ≠ gb23)); replace BK23 := am (bbl_ BK23.out hb); have NB24_25 := am ((by rw [hg]; exact Nat.ne_of_lt (blt_ BK24.out) : gb24 ≠ gb25)); have NB25_24 := am ((by rw [hg]; exact Nat.ne_of_gt (blt_ BK24.out) : gb25 ≠ gb24)); replace BK24 := am (bbl_ BK24.out hb); clear hb hbox hg; have hnb7 := NB23_24.out; have hnc7 := NB24_23.out; have hnb8 := NB23_25.out; have hnc8 := NB25_23.out; obtain ⟨hcz9_0, hcz9_1, hfz9_0, hfz9_1⟩ := bcf2_ BK23.out) | ((with_reducible refine gate_callee (f := 30) rfl ?_); refine gl_ 6 Tryz.func30 #[.slice A0_0 l0_0.length c0_0] ?_; (with_reducible refine (laws_toIntS.calls k _ _ l0_0 t21 _ (aC_ (Kd.C_below HR0_0.out HB.out)) HC0_0.out A2.out).mono ?_); rintro e w10 ⟨v27, rfl, ho0, hb⟩; refine ⟨_, rfl, ?_⟩; have HO28 := am (Kd.R_lower (Kd.R_newM (M := fun k_ => (w.heap.size ≤ k_)) ho0 (below_size ab46_) (fun k_ h_ => h_)) (below_size ab46_)); replace BK23 := am (bbl_ BK23.out hb); replace BK24 := am (bbl_ BK24.out hb); replace BK25 := am (bbl_ BK25.out hb); replace HB := am (below_step ab46_ hb); (try clear hb); (try clear ho0); obtain ⟨Ao11, co11, eo11⟩ := Kd.R_slice HO28.out; subst eo11; have hnb12 := NB25_24.out; have hnc12 := NB24_25.out; obtain ⟨hcz13_0, hcz13_1, hfz13_0, hfz13_1⟩ := bcf2_ BK25.out; obtain ⟨hcz14_0, hcz14_1, hfz14_0, hfz14_1⟩ := bcf2_ BK23.out) | ((with_reducible refine gate_callee (f := 31) rfl ?_); refine gl_ 10 Tryz.func31 #[.slice A0_1 l0_1.length c0_1] ?_; (with_reducible refine (laws_toStmtSS.calls k _ _ l0_1 t22 _ ?side1 HC0_1.out A3.out).mono ?_); (case side1 => exact Kd.C_below HR0_1.out ab46_); rintro e w15 ⟨v29, rfl, ho0, hb⟩; refine ⟨_, rfl, ?_⟩; have HO32 := am (Kd.N_lower (Kd.N_mono (ok' := fun k_ => (w.heap.size ≤ k_) ∧ some k_ ≠ (.slice Ao11 t21.length co11 : Value).ownBlock ∧ k_ ≠ gb23 ∧ k_ ≠ gb24 ∧ k_ ≠ gb25) ho0 (fun k_ hk_ => ⟨(Nat.le_trans (below_size ab46_) hk_), (Kd.fresh' (Kd.R_lt (aRw_ ((Kd.R_mono (Kd.R_far (p := ⟨gb25, 0, none⟩) (Kd.R_types HO28.out BK25.out (by decide)) (fun _ hk => hk.2) (.slice Ao11 t21.length co11)) (fun _ h_ => h_.1))))) k_ hk_), (Kd.freshB (g := gb23) (o := .cells #[.slice A0_0 l0_0.length c0_0, .slice A0_1 l0_1.length c0_1] 38 (0, 0)) (blk_far BK23.out NB23_25.out _) k_ hk_), (Kd.freshB (g := gb24) (o := .cells #[.slice none 0 0, .slice none 0 0] 26 (0, 0)) (blk_far BK24.out NB24_25.out _) k_ hk_), (Kd.freshB (g := gb25) (o := .cells #[.slice Ao11 t21.length co11, .slice none 0 0] 26 (0, 0)) (blk_put BK25.out 0 _ rfl) k_ hk_)⟩)) (below_size ab46_)); replace HO28 := am (Kd.R_below (aRw_ ((Kd.R_mono (Kd.R_far (p := ⟨gb25, 0, none⟩) (Kd.R_types HO28.out BK25.out (by decide)) (fun _ hk => hk.2) (.slice Ao11 t21.length co11)) (fun _ h_ => h_.1)))) hb); replace BK23 := am (blk_below (g := gb23) (o := .cells #[.slice A0_0 l0_0.length c0_0, .slice A0_1 l0_1.length c0_1] 38 (0, 0)) (blk_far BK23.out NB23_25.out _) hb); replace BK24 := am (blk_below (g := gb24) (o := .cells #[.slice none 0 0, .slice none 0 0] 26 (0, 0)) (blk_far BK24.out NB24_25.out _) hb); replace BK25 := am (blk_below (g := gb25) (o := .cells #[.slice Ao11 t21.length co11, .slice none 0 0] 26 (0, 0)) (blk_put BK25.out 0 _ rfl) hb); replace HB := am (below_step ab46_ hb); (try clear hb); (try clear ho0); obtain ⟨Ao16, co16, eo16⟩ := Kd.N_slice HO32.out; subst eo16; obtain ⟨hcz17_0, hcz17_1, hfz17_0, hfz17_1⟩ := bcf2_ BK25.out; obtain ⟨hcz18_0, hcz18_1, hfz18_0, hfz18_1⟩ := bcf2_ BK24.out))
 refine bodyPost_ret (results_cell_row rfl _ _ gb24 26 #[.slice Ao11 t21.length co11, .slice Ao16 t22.length co16] (0, 0) _ rfl (blk_put (blk_put (blk_far BK24.out NB24_25.out _) 0 _ rfl) 1 _ rfl) Tryz.underlying26 rfl (by kernel_rfl)) rfl ?_
 exact ⟨_, _, ab13_, aRw_ (Kd.R_mono (Kd.R_far (p := ⟨gb24, 1, none⟩) (Kd.R_far (p := ⟨gb24, 0, none⟩) (Kd.R_far (p := ⟨gb25, 1, none⟩) (Kd.R_types (Kd.R_types HO28.out BK25.out (by decide)) BK24.out (by decide)) (fun _ hk => hk.1.2) (.slice Ao16 t22.length co16)) (fun _ hk => hk.2) (.slice Ao11 t21.length co11)) (fun _ hk => hk.2) (.slice Ao16 t22.length co16)) (fun _ hk => hk.1.1.1)), aNw_ (Kd.N_mono (Kd.N_far (p := ⟨gb24, 1, none⟩) (Kd.N_far (p := ⟨gb24, 0, none⟩) (Kd.N_far (p := ⟨gb25, 1, none⟩) (Kd.N_mono (Kd.N_mono HO32.out (fun k_ hk => (⟨hk, hk.2.2.2.2⟩ : _ ∧ k_ ≠ gb25))) (fun k_ hk => (⟨hk, hk.1.2.2.2.1⟩ : _ ∧ k_ ≠ gb24))) (fun _ hk => hk.1.2) (.slice Ao16 t22.length co16)) (fun _ hk => hk.2) (.slice Ao11 t21.length co11)) (fun _ hk => hk.2) (.slice Ao16 t22.length co16)) (fun _ hk => ⟨hk.1.1.1, hk.1.1.2.1⟩)), ab46_⟩
theorem laws_eqIntS.mono_l : ∀ k, (∀ y0 y1 y2, LeO (laws_eqIntS.l0 k y0 y1 y2) (laws_eqIntS.l0 (k + 1) y0 y1 y2))
 | 0 => fun _ _ _ r h => by simp [laws_eqIntS.l0] at h
 | k + 1 => by
  have ih0 := laws_eqIntS.mono_l k
  ·intro y0 y1 y2
   unfold laws_eqIntS.l0
   exact mo_
theorem laws_eqIntS.mono : ∀ a0 a1 k, LeO (laws_eqIntS.f k a0 a1) (laws_eqIntS.f (k + 1) a0 a1) := by
 intro a0 a1 k
 have ih0 := laws_eqIntS.mono_l k
 unfold laws_eqIntS.f
 exact mo_
theorem laws_eqIntS.calls (k : Nat) (A0 : Option Addr) (c0 : Nat) (l0 : List Int) (A1 : Option Addr) (c1 : Nat) (l1 : List Int) (r : Bool) (w : World) (hr0 : Kd.C (Kd.int .i64) w A0 l0.length l0) (hc0 : l0.length ≤ c0) (hr1 : Kd.C (Kd.int .i64) w A1 l1.length l1) (hc1 : l1.length ≤ c1) (h : laws_eqIntS.f k l0 l1 = some r) :
  Calls Tryz.prog 32 #[.slice A0 l0.length c0, .slice A1 l1.length c1] w fun e w' => e = .returned (.bool r) ∧ Drawn0 w w' := by
 have HR0 := am hr0
 have HC0 := am hc0
 clear hr0 hc0
 have HR1 := am hr1
 have HC1 := am hc1
 clear hr1 hc1
 have H : (if (l0.length : Int) = (l1.length : Int) then (laws_eqIntS.l0 k l0 l1 0) else (some false)) = some r := h
 clear h
 by_cases c3 : (l0.length : Int) = (l1.length : Int)
 ·rw [if_pos c3] at H
  have c3b0 : ((l0.length : Int) == (l1.length : Int)) = true := beq_iff_eq.mpr c3
  have c3b1 : ((l0.length : Int) != (l1.length : Int)) = false := bne_eq_false_iff_eq.mpr c3
  have c3b2 : (l0.length == l1.length) = true := by first | simpa using c3 | (simp at c3 ⊢; omega)
  clear c3
  have H' := am H
  clear H
  go_enter Tryz.func32, Tryz.ntmps32
  go_wp2
  repeat (go_quiet (fail); try go_wp2)
  go_loopg [5] k (fun kq v5 w' => ∃ (x5_1 : Int), v5 = .int .i64 x5_1 ∧ Aside0 (laws_eqIntS.l0 kq l0 l1 x5_1 = some r) ∧ Aside0 (kq ≤ k) ∧ Drawn0 w w')
  case atStart => exact ⟨(0), sd_, H', ⟨Nat.le_refl _⟩, ab18_⟩
  case round =>
   clear H'
   try clear c1
   try clear c3
   try clear c3b0
   try clear c3b1
   try clear c3b2
   obtain ⟨x5_1, rfl, HA, HK1, ⟨m1, rfl⟩⟩ := hrel
   cases gk with
   | zero => exact absurd HA.out (by simp [laws_eqIntS.l0])
   | succ k1 =>
    have H := HA.out
    clear HA
    simp only [laws_eqIntS.l0] at H
    by_cases c4 : x5_1 < (l0.length : Int)
    ·rw [if_pos c4] at H
     have c4b0 : decide (x5_1 < (l0.length : Int)) = true := decide_eq_true c4
     clear c4
     by_cases c5 : 0 ≤ x5_1
     ·rw [if_pos c5] at H
      have c5b0 : decide (0 ≤ x5_1) = true := decide_eq_true c5
      clear c5
      by_cases c6 : x5_1 < (l1.length : Int)
      ·rw [if_pos c6] at H
       have c6b0 : decide (x5_1 < (l1.length : Int)) = true := decide_eq_true c6
       clear c6
       by_cases c7 : (rd l0 x5_1) = (rd l1 x5_1)
       ·rw [if_pos c7] at H
        have c7b0 : ((rd l0 x5_1) == (rd l1 x5_1)) = true := beq_iff_eq.mpr c7
        have c7b1 : ((rd l0 x5_1) != (rd l1 x5_1)) = false := bne_eq_false_iff_eq.mpr c7
        clear c7
        have H' := am H
        clear H
        have p20 : 0 ≤ (x5_1 : Int) := of_decide_eq_true asm_
        have q20 : x5_1 < (l0.length : Int) := of_decide_eq_true asm_
        obtain ⟨ad20, e20, hx20_0⟩ := Kd.at_int HR0.out x5_1 p20 q20
        cases e20
        replace p20 := eq_true p20
        replace q20 := eq_true q20
        have p21 : 0 ≤ (x5_1 : Int) := of_decide_eq_true asm_
        have q21 : x5_1 < (l1.length : Int) := of_decide_eq_true asm_
        obtain ⟨ad21, e21, hx21_0⟩ := Kd.at_int HR1.out x5_1 p21 q21
        cases e21
        replace p21 := eq_true p21
        replace q21 := eq_true q21
        go_wp2
        repeat (go_quiet (fail); try go_wp2)
        go_roundg k1
        case measure => have := HK1.out; omega
        case rel => exact ⟨(wrap64 (x5_1 + 1)), sd_, H', ⟨by have := HK1.out; omega⟩, ab18_⟩
       rw [if_neg c7] at H
       have c7b0 : ((rd l0 x5_1) == (rd l1 x5_1)) = false := beq_eq_false_iff_ne.mpr c7
       have c7b1 : ((rd l0 x5_1) != (rd l1 x5_1)) = true := bne_iff_ne.mpr c7
       obtain rfl := Option.some.inj H
       have p20 : 0 ≤ (x5_1 : Int) := of_decide_eq_true asm_
       have q20 : x5_1 < (l0.length : Int) := of_decide_eq_true asm_
       obtain ⟨ad20, e20, hx20_0⟩ := Kd.at_int HR0.out x5_1 p20 q20
       cases e20
       replace p20 := eq_true p20
       replace q20 := eq_true q20
       have p21 : 0 ≤ (x5_1 : Int) := of_decide_eq_true asm_
       have q21 : x5_1 < (l1.length : Int) := of_decide_eq_true asm_
       obtain ⟨ad21, e21, hx21_0⟩ := Kd.at_int HR1.out x5_1 p21 q21
       cases e21
       replace p21 := eq_true p21
       replace q21 := eq_true q21
       go_wp2
       repeat (go_quiet (fail); try go_wp2)
       go_ret
       exact ⟨sd_, ab18_⟩
      rw [if_neg c6] at H
      exact absurd H (by simp)
     rw [if_neg c5] at H
     exact absurd H (by simp)
    rw [if_neg c4] at H
    have c4b0 : decide (x5_1 < (l0.length : Int)) = false := decide_eq_false c4
    clear c4
    obtain rfl := Option.some.inj H
    go_wp2
    repeat (go_quiet (fail); try go_wp2)
    go_ret
    exact ⟨sd_, ab18_⟩
 rw [if_neg c3] at H
 have c3b0 : ((l0.length : Int) == (l1.length : Int)) = false := beq_eq_false_iff_ne.mpr c3
 have c3b1 : ((l0.length : Int) != (l1.length : Int)) = true := bne_iff_ne.mpr c3
 have c3b2 : (l0.length == l1.length) = false := by first | simpa using c3 | (simp at c3 ⊢; omega)
 obtain rfl := Option.some.inj H
 go_enter Tryz.func32, Tryz.ntmps32
 go_wp2
 repeat (go_quiet (fail); try go_wp2)
 go_ret
 exact ⟨sd_, ab18_⟩
theorem laws_eqExprS.mono_all : ∀ k, (∀ y0 y1, LeO (laws_eqExprS.f k y0 y1) (laws_eqExprS.f (k + 1) y0 y1)) ∧ (∀ y0 y1 y2, LeO (laws_eqExprS.l0 k y0 y1 y2) (laws_eqExprS.l0 (k + 1) y0 y1 y2)) ∧ (∀ y0 y1 y2 y3 y4 y5, LeO (laws_eqExpr.f k y0 y1 y2 y3 y4 y5) (laws_eqExpr.f (k + 1) y0 y1 y2 y3 y4 y5))
 | 0 => ⟨fun _ _ r h => by simp [laws_eqExprS.f] at h, fun _ _ _ r h => by simp [laws_eqExprS.l0] at h, fun _ _ _ _ _ _ r h => by simp [laws_eqExpr.f] at h⟩
 | k + 1 => by
  obtain ⟨ih0, ih1, ih2⟩ := laws_eqExprS.mono_all k
  refine ⟨?_, ?_, ?_⟩
  ·intro y0 y1
   unfold laws_eqExprS.f
   exact mo_
  ·intro y0 y1 y2
   unfold laws_eqExprS.l0
   exact mo_
  ·intro y0 y1 y2 y3 y4 y5
   unfold laws_eqExpr.f
   exact mo_
theorem laws_eqExprS.mono : ∀ a0 a1 k, LeO (laws_eqExprS.f k a0 a1) (laws_eqExprS.f (k + 1) a0 a1) := by
 intro a0 a1 k
 obtain ⟨ih0, ih1, ih2⟩ := laws_eqExprS.mono_all k
 exact ih0 a0 a1
theorem laws_eqExpr.mono : ∀ a0 a1 a2 a3 a4 a5 k, LeO (laws_eqExpr.f k a0 a1 a2 a3 a4 a5) (laws_eqExpr.f (k + 1) a0 a1 a2 a3 a4 a5) := by
 intro a0 a1 a2 a3 a4 a5 k
 obtain ⟨ih0, ih1, ih2⟩ := laws_eqExprS.mono_all k
 exact ih2 a0 a1 a2 a3 a4 a5
abbrev laws_eqExprS.CallsAt (k : Nat) : Prop := ∀ (A0 : Option Addr) (c0 : Nat) (l0 : List (S56)) (A1 : Option Addr) (c1 : Nat) (l1 : List (S56)) (r : Bool) (w : World) (hr0 : Kd.C k56 w A0 l0.length l0) (hc0 : l0.length ≤ c0) (hr1 : Kd.C k56 w A1 l1.length l1) (hc1 : l1.length ≤ c1) (h : laws_eqExprS.f k l0 l1 = some r),
  Calls Tryz.prog 125 #[.slice A0 l0.length c0, .slice A1 l1.length c1] w fun e w' => e = .returned (.bool r) ∧ Below w.heap.size w w'
abbrev laws_eqExpr.CallsAt (k : Nat) : Prop := ∀ (a0_0 : Int) (a0_1 : Int) (A0_2 : Option Addr) (c0_2 : Nat) (l0_2 : List (S56)) (a1_0 : Int) (a1_1 : Int) (A1_2 : Option Addr) (c1_2 : Nat) (l1_2 : List (S56)) (r : Bool) (w : World) (hr0_2 : Kd.C k56 w A0_2 l0_2.length l0_2) (hc0_2 : l0_2.length ≤ c0_2) (hr1_2 : Kd.C k56 w A1_2 l1_2.length l1_2) (hc1_2 : l1_2.length ≤ c1_2) (h : laws_eqExpr.f k a0_0 a0_1 l0_2 a1_0 a1_1 l1_2 = some r),
  Calls Tryz.prog 104 #[.agg #[.int .i64 a0_0, .int .i64 a0_1, .slice A0_2 l0_2.length c0_2], .agg #[.int .i64 a1_0, .int .i64 a1_1, .slice A1_2 l1_2.length c1_2]] w fun e w' => e = .returned (.bool r) ∧ Below w.heap.size w w'
theorem laws_eqStmt.mono_all : ∀ k, (∀ y0 y1 y2 y3 y4 y5 y6 y7 y8 y9 y10 y11 y12 y13 y14 y15, LeO (laws_eqStmt.f k y0 y1 y2 y3 y4 y5 y6 y7 y8 y9 y10 y11 y12 y13 y14 y15) (laws_eqStmt.f (k + 1) y0 y1 y2 y3 y4 y5 y6 y7 y8 y9 y10 y11 y12 y13 y14 y15)) ∧ (∀ y0 y1, LeO (laws_eqStmtS.f k y0 y1) (laws_eqStmtS.f (k + 1) y0 y1)) ∧ (∀ y0 y1 y2, LeO (laws_eqStmtS.l0 k y0 y1 y2) (laws_eqStmtS.l0 (k + 1) y0 y1 y2))
 | 0 => ⟨fun _ _ _ _ _ _ _ _ _ _ _ _ _ _ _ _ r h => by simp [laws_eqStmt.f] at h, fun _ _ r h => by simp [laws_eqStmtS.f] at h, fun _ _ _ r h => by simp [laws_eqStmtS.l0] at h⟩
 | k + 1 => by
  obtain ⟨ih0, ih1, ih2⟩ := laws_eqStmt.mono_all k
  refine ⟨?_, ?_, ?_⟩
  ·intro y0 y1 y2 y3 y4 y5 y6 y7 y8 y9 y10 y11 y12 y13 y14 y15
   unfold laws_eqStmt.f
   have m0 := @laws_eqExpr.mono
   exact mo_
  ·intro y0 y1
   unfold laws_eqStmtS.f
   have m0 := @laws_eqExpr.mono
   exact mo_
  ·intro y0 y1 y2
   unfold laws_eqStmtS.l0
   have m0 := @laws_eqExpr.mono
   exact mo_
theorem laws_eqStmt.mono : ∀ a0 a1 a2 a3 a4 a5 a6 a7 a8 a9 a10 a11 a12 a13 a14 a15 k, LeO (laws_eqStmt.f k a0 a1 a2 a3 a4 a5 a6 a7 a8 a9 a10 a11 a12 a13 a14 a15) (laws_eqStmt.f (k + 1) a0 a1 a2 a3 a4 a5 a6 a7 a8 a9 a10 a11 a12 a13 a14 a15) := by
 intro a0 a1 a2 a3 a4 a5 a6 a7 a8 a9 a10 a11 a12 a13 a14 a15 k
 obtain ⟨ih0, ih1, ih2⟩ := laws_eqStmt.mono_all k
 exact ih0 a0 a1 a2 a3 a4 a5 a6 a7 a8 a9 a10 a11 a12 a13 a14 a15
theorem laws_eqStmtS.mono : ∀ a0 a1 k, LeO (laws_eqStmtS.f k a0 a1) (laws_eqStmtS.f (k + 1) a0 a1) := by
 intro a0 a1 k
 obtain ⟨ih0, ih1, ih2⟩ := laws_eqStmt.mono_all k
 exact ih1 a0 a1
abbrev laws_eqStmt.CallsAt (k : Nat) : Prop := ∀ (a0_0 : Int) (a0_1 : Int) (a0_2 : Int) (a0_3 : Int) (a0_4 : Int) (A0_5 : Option Addr) (c0_5 : Nat) (l0_5 : List (S56)) (A0_6 : Option Addr) (c0_6 : Nat) (l0_6 : List (S58)) (A0_7 : Option Addr) (c0_7 : Nat) (l0_7 : List (S58)) (a1_0 : Int) (a1_1 : Int) (a1_2 : Int) (a1_3 : Int) (a1_4 : Int) (A1_5 : Option Addr) (c1_5 : Nat) (l1_5 : List (S56)) (A1_6 : Option Addr) (c1_6 : Nat) (l1_6 : List (S58)) (A1_7 : Option Addr) (c1_7 : Nat) (l1_7 : List (S58)) (r : Bool) (w : World) (hr0_5 : Kd.C k56 w A0_5 l0_5.length l0_5) (hc0_5 : l0_5.length ≤ c0_5) (hr0_6 : Kd.C k58 w A0_6 l0_6.length l0_6) (hc0_6 : l0_6.length ≤ c0_6) (hr0_7 : Kd.C k58 w A0_7 l0_7.length l0_7) (hc0_7 : l0_7.length ≤ c0_7) (hr1_5 : Kd.C k56 w A1_5 l1_5.length l1_5) (hc1_5 : l1_5.length ≤ c1_5) (hr1_6 : Kd.C k58 w A1_6 l1_6.length l1_6) (hc1_6 : l1_6.length ≤ c1_6) (hr1_7 : Kd.C k58 w A1_7 l1_7.length l1_7) (hc1_7 : l1_7.length ≤ c1_7) (h : laws_eqStmt.f k a0_0 a0_1 a0_2 a0_3 a0_4 l0_5 l0_6 l0_7 a1_0 a1_1 a1_2 a1_3 a1_4 l1_5 l1_6 l1_7 = some r),
  Calls Tryz.prog 80 #[.agg #[.int .i64 a0_0, .int .i64 a0_1, .int .i64 a0_2, .int .i64 a0_3, .int .i64 a0_4, .slice A0_5 l0_5.length c0_5, .slice A0_6 l0_6.length c0_6, .slice A0_7 l0_7.length c0_7], .agg #[.int .i64 a1_0, .int .i64 a1_1, .int .i64 a1_2, .int .i64 a1_3, .int .i64 a1_4, .slice A1_5 l1_5.length c1_5, .slice A1_6 l1_6.length c1_6, .slice A1_7 l1_7.length c1_7]] w fun e w' => e = .returned (.bool r) ∧ Below w.heap.size w w'
abbrev laws_eqStmtS.CallsAt (k : Nat) : Prop := ∀ (A0 : Option Addr) (c0 : Nat) (l0 : List (S58)) (A1 : Option Addr) (c1 : Nat) (l1 : List (S58)) (r : Bool) (w : World) (hr0 : Kd.C k58 w A0 l0.length l0) (hc0 : l0.length ≤ c0) (hr1 : Kd.C k58 w A1 l1.length l1) (hc1 : l1.length ≤ c1) (h : laws_eqStmtS.f k l0 l1 = some r),
  Calls Tryz.prog 57 #[.slice A0 l0.length c0, .slice A1 l1.length c1] w fun e w' => e = .returned (.bool r) ∧ Below w.heap.size w w'
def laws_eqExprS.T6 : Bool × List (List Nat × List Nat) := (true, [([], []), ([], []), ([0, 1], [0, 1]), ([2], [2]), ([], []), ([], []), ([4, 5], [4, 5]), ([6], [6]), ([3, 7], [3, 7]), ([8], [8])])
def laws_eqExprS.B6 : List Nat := [0, 0, 3, 7, 0, 0, 48, 112, 255, 511]
theorem laws_eqExprS.tab6 : rtab .any (opsOf Tryz.f125 6) = laws_eqExprS.T6 := by kernel_rfl
theorem laws_eqExprS.bits6 : waitsOk laws_eqExprS.T6.2 laws_eqExprS.B6 = true := by kernel_rfl
theorem laws_eqExprS.step (k : Nat) (ih_laws_eqExprS : ∀ m, m < k → laws_eqExprS.CallsAt m) (ih_laws_eqExpr : ∀ m, m < k → laws_eqExpr.CallsAt m) : laws_eqExprS.CallsAt k := by
 intro A0 c0 l0 A1 c1 l1 r w hr0 hc0 hr1 hc1 h
 cases k with
 | zero => exact absurd h (by simp [laws_eqExprS.f])
 | succ k =>
 simp only [laws_eqExprS.f] at h
 have hu56 := Tryz.underlying56
 have HR0 := am hr0
 have HC0 := am hc0
 clear hr0 hc0
 have HR1 := am hr1
 have HC1 := am hc1
 clear hr1 hc1
 have HB := am (Below.refl w.heap.size w)
 have H : (if (l0.length : Int) = (l1.length : Int) then (laws_eqExprS.l0 k l0 l1 0) else (some false)) = some r := h
 clear h
 by_cases c3 : (l0.length : Int) = (l1.length : Int)
 ·rw [if_pos c3] at H
  have c3b0 : ((l0.length : Int) == (l1.length : Int)) = true := beq_iff_eq.mpr c3
  have c3b1 : ((l0.length : Int) != (l1.length : Int)) = false := bne_eq_false_iff_eq.mpr c3
  have c3b2 : (l0.length == l1.length) = true := by first | simpa using c3 | (simp at c3 ⊢; omega)
  clear c3
  have H' := am H
  clear H
  go_enter Tryz.func125, Tryz.ntmps125
  go_wp2
  go_loopg [5] k (fun kq v5 w' => ∃ (x5_1 : Int), v5 = .int .i64 x5_1 ∧ Aside0 (laws_eqExprS.l0 kq l0 l1 x5_1 = some r) ∧ Aside0 (kq ≤ k) ∧ Aside0 (Below w.heap.size w w'))
  case atStart => exact ⟨(0), sd_, H', ⟨Nat.le_refl _⟩, ⟨ab2_⟩⟩
  case round =>
   clear H'
   try clear c1
   try clear c3
   try clear c3b0
   try clear c3b1
   try clear c3b2
   obtain ⟨x5_1, rfl, HA, HK1, HB⟩ := hrel
   cases gk with
   | zero => exact absurd HA.out (by simp [laws_eqExprS.l0])
   | succ k1 =>
    have H := HA.out
    clear HA
    simp only [laws_eqExprS.l0] at H
    by_cases c4 : x5_1 < (l0.length : Int)
    ·rw [if_pos c4] at H
     have c4b0 : decide (x5_1 < (l0.length : Int)) = true := decide_eq_true c4
     clear c4
     by_cases c5 : 0 ≤ x5_1
     ·rw [if_pos c5] at H
      have c5b0 : decide (0 ≤ x5_1) = true := decide_eq_true c5
      clear c5
      by_cases c6 : x5_1 < (l1.length : Int)
      ·rw [if_pos c6] at H
       have c6b0 : decide (x5_1 < (l1.length : Int)) = true := decide_eq_true c6
       clear c6
       obtain ⟨t27, A7, H⟩ := bsa H
       (try dsimp only at H)
       by_cases c8 : t27 = true
       ·subst c8
        rw [if_pos rfl] at H
        have H' := am H
        clear H
        try go_wp2
        replace HB := am (below_drew1 HB.out)
        have p28 : 0 ≤ (x5_1 : Int) := of_decide_eq_true asm_
        have q28 : x5_1 < (l0.length : Int) := of_decide_eq_true asm_
        obtain ⟨ad28, A28_2, c28_2, e28, hx28_0, hx28_1, hx28_2, hl28_2, hi28_2⟩ := at_T56 HR0.out x5_1 p28 q28
        have hw28_2 := hx28_2
        have hw28_1 := hx28_1
        have hw28_0 := hx28_0
        cases e28
        replace hx28_0 := (HB.out.cell (World.block_lt_of_cell? w _ hx28_0)).trans hx28_0
        replace hx28_1 := (HB.out.cell (World.block_lt_of_cell? w _ hx28_1)).trans hx28_1
        replace hx28_2 := (HB.out.cell (World.block_lt_of_cell? w _ hx28_2)).trans hx28_2
        have HR28_2 := am hi28_2
        have HC28_2 := am hl28_2
        clear hi28_2 hl28_2
        replace p28 := eq_true p28
        replace q28 := eq_true q28
        have p29 : 0 ≤ (x5_1 : Int) := of_decide_eq_true asm_
        have q29 : x5_1 < (l1.length : Int) := of_decide_eq_true asm_
        obtain ⟨ad29, A29_2, c29_2, e29, hx29_0, hx29_1, hx29_2, hl29_2, hi29_2⟩ := at_T56 HR1.out x5_1 p29 q29
        have hw29_2 := hx29_2
        have hw29_1 := hx29_1
        have hw29_0 := hx29_0
        cases e29
        replace hx29_0 := (HB.out.cell (World.block_lt_of_cell? w _ hx29_0)).trans hx29_0
        replace hx29_1 := (HB.out.cell (World.block_lt_of_cell? w _ hx29_1)).trans hx29_1
        replace hx29_2 := (HB.out.cell (World.block_lt_of_cell? w _ hx29_2)).trans hx29_2
        have HR29_2 := am hi29_2
        have HC29_2 := am hl29_2
        clear hi29_2 hl29_2
        replace p29 := eq_true p29
        replace q29 := eq_true q29
        refine start_ (n := 10) (S := fun w' => w'.cell? (ad28.add ((x5_1).toNat * 3)) = some (.int .i64 ((rd_T56 l0 x5_1).f0)) ∧ w'.cell? ⟨(ad28.add ((x5_1).toNat * 3)).block, (ad28.add ((x5_1).toNat * 3)).off + 1, none⟩ = some (.int .i64 ((rd_T56 l0 x5_1).f1)) ∧ w'.cell? ⟨(ad28.add ((x5_1).toNat * 3)).block, (ad28.add ((x5_1).toNat * 3)).off + 2, none⟩ = some (.slice A28_2 ((rd_T56 l0 x5_1).f2).length c28_2) ∧ w'.cell? (ad29.add ((x5_1).toNat * 3)) = some (.int .i64 ((rd_T56 l1 x5_1).f0)) ∧ w'.cell? ⟨(ad29.add ((x5_1).toNat * 3)).block, (ad29.add ((x5_1).toNat * 3)).off + 1, none⟩ = some (.int .i64 ((rd_T56 l1 x5_1).f1)) ∧ w'.cell? ⟨(ad29.add ((x5_1).toNat * 3)).block, (ad29.add ((x5_1).toNat * 3)).off + 2, none⟩ = some (.slice A29_2 ((rd_T56 l1 x5_1).f2).length c29_2)) (ds := []) (bz 10 0) (by kernel_rfl) rfl rfl ⟨((HB.out.cell (World.block_lt_of_cell? w _ hw28_0)).trans hw28_0), ((HB.out.cell (World.block_lt_of_cell? w _ hw28_1)).trans hw28_1), ((HB.out.cell (World.block_lt_of_cell? w _ hw28_2)).trans hw28_2), ((HB.out.cell (World.block_lt_of_cell? w _ hw29_0)).trans hw29_0), ((HB.out.cell (World.block_lt_of_cell? w _ hw29_1)).trans hw29_1), ((HB.out.cell (World.block_lt_of_cell? w _ hw29_2)).trans hw29_2)⟩ (fun hHeld => ?_); refine with_tabW laws_eqExprS.tab6 laws_eqExprS.bits6 (fun HT_ HW_ => ?_)
        generalize wr.drew = w9 at HB HR28_2 HR29_2 hx28_0 hx28_1 hx28_2 hx29_0 hx29_1 hx29_2 hHeld ⊢
        refine pr_ 0 17 (bz 10 1) HT_ ?_
        refine pr_ 1 18 (bz 10 3) HT_ ?_
        refine pr_ 2 19 (bz 10 7) HT_ ?_
        refine pr_ 4 21 (bz 10 23) HT_ ?_
        refine pr_ 5 22 (bz 10 55) HT_ ?_
        refine pr_ 6 23 (bz 10 119) HT_ ?_
        refine tk6_ 3 20 (bz 10 127) HT_ HW_ hHeld ?_
        refine tk6_ 7 24 (bz 10 255) HT_ HW_ hHeld ?_
        refine one_ (i := 8) (N := some 25) (bz 10 511) rfl rfl (one_of HT_.out (by kernel_rfl)) (by decide) (fun K hK => ?_)
        refine goes_ Tryz.func104 (by kernel_rfl) rfl #[.agg #[.int .i64 ((rd_T56 l0 x5_1).f0), .int .i64 ((rd_T56 l0 x5_1).f1), .slice A28_2 ((rd_T56 l0 x5_1).f2).length c28_2], .agg #[.int .i64 ((rd_T56 l1 x5_1).f0), .int .i64 ((rd_T56 l1 x5_1).f1), .slice A29_2 ((rd_T56 l1 x5_1).f2).length c29_2]] (by rfl) rfl rfl ab1_ ?_
        with_reducible refine (ih_laws_eqExpr k1 (by have := HK1.out; omega) ((rd_T56 l0 x5_1).f0) ((rd_T56 l0 x5_1).f1) _ _ ((rd_T56 l0 x5_1).f2) ((rd_T56 l1 x5_1).f0) ((rd_T56 l1 x5_1).f1) _ _ ((rd_T56 l1 x5_1).f2) true _ (aC_ (Kd.C_below HR28_2.out HB.out)) HC28_2.out (aC_ (Kd.C_below HR29_2.out HB.out)) HC29_2.out A7.out).mono ?_
        rintro e w10 ⟨rfl, hb⟩
        refine ⟨_, rfl, ?_⟩
        replace HB := am (below_step ab2_ hb)
        (try clear hb)
        (try clear hb2)
        (try clear hk)
        (try clear hi)
        refine hK.out _ _ ⟨((HB.out.cell (World.block_lt_of_cell? w _ hw28_0)).trans hw28_0), ((HB.out.cell (World.block_lt_of_cell? w _ hw28_1)).trans hw28_1), ((HB.out.cell (World.block_lt_of_cell? w _ hw28_2)).trans hw28_2), ((HB.out.cell (World.block_lt_of_cell? w _ hw29_0)).trans hw29_0), ((HB.out.cell (World.block_lt_of_cell? w _ hw29_1)).trans hw29_1), ((HB.out.cell (World.block_lt_of_cell? w _ hw29_2)).trans hw29_2)⟩ (fun hHeld => ?_)
        clear hK K
        refine norm_ (a' := ?_) ?_ ?_
        rotate_left
        ·show Act.put _ (some 25) _ = _
         simp only [Act.put, List.setIfInBounds_toArray, List.set_cons_zero, List.set_cons_succ, i64_w, i32_w]
         rfl
        refine pr_ 9 26 (bz 10 1023) HT_ ?_
        refine done_ (done_of HT_.out (by kernel_rfl)) ?_
        try go_wp2
        go_roundg k1
        case measure => have := HK1.out; omega
        case rel => exact ⟨(wrap64 (x5_1 + 1)), sd_, H', ⟨by have := HK1.out; omega⟩, ⟨ab2_⟩⟩
       replace c8 := Bool.eq_false_iff.mpr c8
       subst c8
       rw [if_neg (show ¬ (false = true) by decide)] at H
       obtain rfl := Option.some.inj H
       try go_wp2
       replace HB := am (below_drew1 HB.out)
       have p28 : 0 ≤ (x5_1 : Int) := of_decide_eq_true asm_
       have q28 : x5_1 < (l0.length : Int) := of_decide_eq_true asm_
       obtain ⟨ad28, A28_2, c28_2, e28, hx28_0, hx28_1, hx28_2, hl28_2, hi28_2⟩ := at_T56 HR0.out x5_1 p28 q28
       have hw28_2 := hx28_2
       have hw28_1 := hx28_1
       have hw28_0 := hx28_0
       cases e28
       replace hx28_0 := (HB.out.cell (World.block_lt_of_cell? w _ hx28_0)).trans hx28_0
       replace hx28_1 := (HB.out.cell (World.block_lt_of_cell? w _ hx28_1)).trans hx28_1
       replace hx28_2 := (HB.out.cell (World.block_lt_of_cell? w _ hx28_2)).trans hx28_2
       have HR28_2 := am hi28_2
       have HC28_2 := am hl28_2
       clear hi28_2 hl28_2
       replace p28 := eq_true p28
       replace q28 := eq_true q28
       have p29 : 0 ≤ (x5_1 : Int) := of_decide_eq_true asm_
       have q29 : x5_1 < (l1.length : Int) := of_decide_eq_true asm_
       obtain ⟨ad29, A29_2, c29_2, e29, hx29_0, hx29_1, hx29_2, hl29_2, hi29_2⟩ := at_T56 HR1.out x5_1 p29 q29
       have hw29_2 := hx29_2
       have hw29_1 := hx29_1
       have hw29_0 := hx29_0
       cases e29
       replace hx29_0 := (HB.out.cell (World.block_lt_of_cell? w _ hx29_0)).trans hx29_0
       replace hx29_1 := (HB.out.cell (World.block_lt_of_cell? w _ hx29_1)).trans hx29_1
       replace hx29_2 := (HB.out.cell (World.block_lt_of_cell? w _ hx29_2)).trans hx29_2
       have HR29_2 := am hi29_2
       have HC29_2 := am hl29_2
       clear hi29_2 hl29_2
       replace p29 := eq_true p29
       replace q29 := eq_true q29
       refine start_ (n := 10) (S := fun w' => w'.cell? (ad28.add ((x5_1).toNat * 3)) = some (.int .i64 ((rd_T56 l0 x5_1).f0)) ∧ w'.cell? ⟨(ad28.add ((x5_1).toNat * 3)).block, (ad28.add ((x5_1).toNat * 3)).off + 1, none⟩ = some (.int .i64 ((rd_T56 l0 x5_1).f1)) ∧ w'.cell? ⟨(ad28.add ((x5_1).toNat * 3)).block, (ad28.add ((x5_1).toNat * 3)).off + 2, none⟩ = some (.slice A28_2 ((rd_T56 l0 x5_1).f2).length c28_2) ∧ w'.cell? (ad29.add ((x5_1).toNat * 3)) = some (.int .i64 ((rd_T56 l1 x5_1).f0)) ∧ w'.cell? ⟨(ad29.add ((x5_1).toNat * 3)).block, (ad29.add ((x5_1).toNat * 3)).off + 1, none⟩ = some (.int .i64 ((rd_T56 l1 x5_1).f1)) ∧ w'.cell? ⟨(ad29.add ((x5_1).toNat * 3)).block, (ad29.add ((x5_1).toNat * 3)).off + 2, none⟩ = some (.slice A29_2 ((rd_T56 l1 x5_1).f2).length c29_2)) (ds := []) (bz 10 0) (by kernel_rfl) rfl rfl ⟨((HB.out.cell (World.block_lt_of_cell? w _ hw28_0)).trans hw28_0), ((HB.out.cell (World.block_lt_of_cell? w _ hw28_1)).trans hw28_1), ((HB.out.cell (World.block_lt_of_cell? w _ hw28_2)).trans hw28_2), ((HB.out.cell (World.block_lt_of_cell? w _ hw29_0)).trans hw29_0), ((HB.out.cell (World.block_lt_of_cell? w _ hw29_1)).trans hw29_1), ((HB.out.cell (World.block_lt_of_cell? w _ hw29_2)).trans hw29_2)⟩ (fun hHeld => ?_); refine with_tabW laws_eqExprS.tab6 laws_eqExprS.bits6 (fun HT_ HW_ => ?_)
       generalize wr.drew = w11 at HB HR28_2 HR29_2 hx28_0 hx28_1 hx28_2 hx29_0 hx29_1 hx29_2 hHeld ⊢
       refine pr_ 0 17 (bz 10 1) HT_ ?_
       refine pr_ 1 18 (bz 10 3) HT_ ?_
       refine pr_ 2 19 (bz 10 7) HT_ ?_
       refine pr_ 4 21 (bz 10 23) HT_ ?_
       refine pr_ 5 22 (bz 10 55) HT_ ?_
       refine pr_ 6 23 (bz 10 119) HT_ ?_
       refine tk6_ 3 20 (bz 10 127) HT_ HW_ hHeld ?_
       refine tk6_ 7 24 (bz 10 255) HT_ HW_ hHeld ?_
       refine one_ (i := 8) (N := some 25) (bz 10 511) rfl rfl (one_of HT_.out (by kernel_rfl)) (by decide) (fun K hK => ?_)
       refine goes_ Tryz.func104 (by kernel_rfl) rfl #[.agg #[.int .i64 ((rd_T56 l0 x5_1).f0), .int .i64 ((rd_T56 l0 x5_1).f1), .slice A28_2 ((rd_T56 l0 x5_1).f2).length c28_2], .agg #[.int .i64 ((rd_T56 l1 x5_1).f0), .int .i64 ((rd_T56 l1 x5_1).f1), .slice A29_2 ((rd_T56 l1 x5_1).f2).length c29_2]] (by rfl) rfl rfl ab1_ ?_
       with_reducible refine (ih_laws_eqExpr k1 (by have := HK1.out; omega) ((rd_T56 l0 x5_1).f0) ((rd_T56 l0 x5_1).f1) _ _ ((rd_T56 l0 x5_1).f2) ((rd_T56 l1 x5_1).f0) ((rd_T56 l1 x5_1).f1) _ _ ((rd_T56 l1 x5_1).f2) false _ (aC_ (Kd.C_below HR28_2.out HB.out)) HC28_2.out (aC_ (Kd.C_below HR29_2.out HB.out)) HC29_2.out A7.out).mono ?_
       rintro e w12 ⟨rfl, hb⟩
       refine ⟨_, rfl, ?_⟩
       replace HB := am (below_step ab2_ hb)
       (try clear hb)
       (try clear hb2)
       (try clear hk)
       (try clear hi)
       refine hK.out _ _ ⟨((HB.out.cell (World.block_lt_of_cell? w _ hw28_0)).trans hw28_0), ((HB.out.cell (World.block_lt_of_cell? w _ hw28_1)).trans hw28_1), ((HB.out.cell (World.block_lt_of_cell? w _ hw28_2)).trans hw28_2), ((HB.out.cell (World.block_lt_of_cell? w _ hw29_0)).trans hw29_0), ((HB.out.cell (World.block_lt_of_cell? w _ hw29_1)).trans hw29_1), ((HB.out.cell (World.block_lt_of_cell? w _ hw29_2)).trans hw29_2)⟩ (fun hHeld => ?_)
       clear hK K
       refine norm_ (a' := ?_) ?_ ?_
       rotate_left
       ·show Act.put _ (some 25) _ = _
        simp only [Act.put, List.setIfInBounds_toArray, List.set_cons_zero, List.set_cons_succ, i64_w, i32_w]
        rfl
       refine pr_ 9 26 (bz 10 1023) HT_ ?_
       refine done_ (done_of HT_.out (by kernel_rfl)) ?_
       try go_wp2
       go_ret
       exact ⟨rr_, ab2_⟩
      rw [if_neg c6] at H
      exact absurd H (by simp)
     rw [if_neg c5] at H
     exact absurd H (by simp)
    rw [if_neg c4] at H
    have c4b0 : decide (x5_1 < (l0.length : Int)) = false := decide_eq_false c4
    clear c4
    obtain rfl := Option.some.inj H
    go_wp2
    go_ret
    exact ⟨rr_, ab2_⟩
 rw [if_neg c3] at H
 have c3b0 : ((l0.length : Int) == (l1.length : Int)) = false := beq_eq_false_iff_ne.mpr c3
 have c3b1 : ((l0.length : Int) != (l1.length : Int)) = true := bne_iff_ne.mpr c3
 have c3b2 : (l0.length == l1.length) = false := by first | simpa using c3 | (simp at c3 ⊢; omega)
 obtain rfl := Option.some.inj H
 go_enter Tryz.func125, Tryz.ntmps125
 go_wp2
 go_ret
 exact ⟨rr_, ab2_⟩
theorem laws_eqExpr.step (k : Nat) (ih_laws_eqExprS : ∀ m, m < k → laws_eqExprS.CallsAt m) (ih_laws_eqExpr : ∀ m, m < k → laws_eqExpr.CallsAt m) : laws_eqExpr.CallsAt k := by
 intro a0_0 a0_1 A0_2 c0_2 l0_2 a1_0 a1_1 A1_2 c1_2 l1_2 r w hr0_2 hc0_2 hr1_2 hc1_2 h
 cases k with
 | zero => exact absurd h (by simp [laws_eqExpr.f])
 | succ k =>
 simp only [laws_eqExpr.f] at h
 have hu56 := Tryz.underlying56
 have HR0_2 := am hr0_2
 have HC0_2 := am hc0_2
 clear hr0_2 hc0_2
 have HR1_2 := am hr1_2
 have HC1_2 := am hc1_2
 clear hr1_2 hc1_2
 have HB := am (Below.refl w.heap.size w)
 have H : (if a0_0 = a1_0 then (if a0_1 = a1_1 then ((laws_eqExprS.f k l0_2 l1_2).bind fun t20 => (if t20 = true then (some true) else (some false))) else (some false)) else (some false)) = some r := h
 clear h
 have HH_ := am H
 clear H
 go_enter Tryz.func104, Tryz.ntmps104
 go_upto_region 1 with (first | ((with_reducible refine gate_dst (N := 2) rfl ?_); refine box_event rfl (N := 2) rfl (cs := #[.int .i64 a0_0, .int .i64 a0_1, .slice A0_2 l0_2.length c0_2]) (t := 56) rn_ ?_; intro gb21 hg w7 hbox hb; have BK21 := am (hbox); have GW21 := am ((by rw [hg]; exact (below_size ab2_) : w.heap.size ≤ gb21)); have GE21 := am ((by rw [hg]; exact (below_size ab2_) : w.heap.size ≤ gb21)); replace HB := am (below_step ab2_ hb); clear hb hbox hg) | ((with_reducible refine gate_dst (N := 3) rfl ?_); refine box_event rfl (N := 3) rfl (cs := #[.int .i64 a1_0, .int .i64 a1_1, .slice A1_2 l1_2.length c1_2]) (t := 56) rn_ ?_; intro gb22 hg w8 hbox hb; have BK22 := am (hbox); have GW22 := am ((by rw [hg]; exact (below_size ab44_) : w.heap.size ≤ gb22)); have GE22 := am ((by rw [hg]; exact (below_size ab44_) : w.heap.size ≤ gb22)); replace HB := am (below_step ab44_ hb); have NB21_22 := am ((by rw [hg]; exact Nat.ne_of_lt (blt_ BK21.out) : gb21 ≠ gb22)); have NB22_21 := am ((by rw [hg]; exact Nat.ne_of_gt (blt_ BK21.out) : gb22 ≠ gb21)); replace BK21 := am (bbl_ BK21.out hb); clear hb hbox hg; have hnb9 := NB21_22.out; have hnc9 := NB22_21.out; obtain ⟨hcz10_0, hcz10_1, hcz10_2, hfz10_0, hfz10_1, hfz10_2⟩ := bcf3_ BK21.out; obtain ⟨hcz11_0, hcz11_1, hcz11_2, hfz11_0, hfz11_1, hfz11_2⟩ := bcf3_ BK22.out))
 have H := HH_.out
 clear HH_
 by_cases c3 : a0_0 = a1_0
 ·rw [if_pos c3] at H
  have c3b0 : (a0_0 == a1_0) = true := beq_iff_eq.mpr c3
  have c3b1 : (a0_0 != a1_0) = false := bne_eq_false_iff_eq.mpr c3
  clear c3
  by_cases c4 : a0_1 = a1_1
  ·rw [if_pos c4] at H
   have c4b0 : (a0_1 == a1_1) = true := beq_iff_eq.mpr c4
   have c4b1 : (a0_1 != a1_1) = false := bne_eq_false_iff_eq.mpr c4
   clear c4
   obtain ⟨t20, A5, H⟩ := bsa H
   (try dsimp only at H)
   by_cases c6 : t20 = true
   ·subst c6
    rw [if_pos rfl] at H
    obtain rfl := Option.some.inj H
    go_wp2_with (first | ((with_reducible refine gate_callee (f := 125) rfl ?_); refine gl_ 19 Tryz.func125 #[.slice A0_2 l0_2.length c0_2, .slice A1_2 l1_2.length c1_2] ?_; (with_reducible refine (ih_laws_eqExprS k (by omega) _ _ l0_2 _ _ l1_2 true _ (aC_ (Kd.C_below HR0_2.out HB.out)) HC0_2.out (aC_ (Kd.C_below HR1_2.out HB.out)) HC1_2.out A5.out).mono ?_); rintro e w12 ⟨rfl, hb⟩; refine ⟨_, rfl, ?_⟩; replace BK21 := am (bbl_ BK21.out hb); replace BK22 := am (bbl_ BK22.out hb); replace HB := am (below_step ab60_ hb); (try clear hb)))
    go_ret
    exact ⟨rr_, ab60_⟩
   replace c6 := Bool.eq_false_iff.mpr c6
   subst c6
   rw [if_neg (show ¬ (false = true) by decide)] at H
   obtain rfl := Option.some.inj H
   go_wp2_with (first | ((with_reducible refine gate_callee (f := 125) rfl ?_); refine gl_ 19 Tryz.func125 #[.slice A0_2 l0_2.length c0_2, .slice A1_2 l1_2.length c1_2] ?_; (with_reducible refine (ih_laws_eqExprS k (by omega) _ _ l0_2 _ _ l1_2 false _ (aC_ (Kd.C_below HR0_2.out HB.out)) HC0_2.out (aC_ (Kd.C_below HR1_2.out HB.out)) HC1_2.out A5.out).mono ?_); rintro e w18 ⟨rfl, hb⟩; refine ⟨_, rfl, ?_⟩; replace BK21 := am (bbl_ BK21.out hb); replace BK22 := am (bbl_ BK22.out hb); replace HB := am (below_step ab60_ hb); (try clear hb)))
   go_ret
   exact ⟨rr_, ab60_⟩
  rw [if_neg c4] at H
  have c4b0 : (a0_1 == a1_1) = false := beq_eq_false_iff_ne.mpr c4
  have c4b1 : (a0_1 != a1_1) = true := bne_iff_ne.mpr c4
  obtain rfl := Option.some.inj H
  go_wp2
  go_ret
  exact ⟨rr_, ab60_⟩
 rw [if_neg c3] at H
 have c3b0 : (a0_0 == a1_0) = false := beq_eq_false_iff_ne.mpr c3
 have c3b1 : (a0_0 != a1_0) = true := bne_iff_ne.mpr c3
 obtain rfl := Option.some.inj H
 go_wp2
 go_ret
 exact ⟨rr_, ab60_⟩
theorem laws_eqExprS.calls_all (k : Nat) : laws_eqExprS.CallsAt k ∧ laws_eqExpr.CallsAt k := by
 induction k using Nat.strongRecOn with
 | _ k ih => exact ⟨laws_eqExprS.step k (ih_laws_eqExprS := fun m hm => (ih m hm).1) (ih_laws_eqExpr := fun m hm => (ih m hm).2), laws_eqExpr.step k (ih_laws_eqExprS := fun m hm => (ih m hm).1) (ih_laws_eqExpr := fun m hm => (ih m hm).2)⟩
theorem laws_eqExprS.calls (k : Nat) : laws_eqExprS.CallsAt k := (laws_eqExprS.calls_all k).1
theorem laws_eqExpr.calls (k : Nat) : laws_eqExpr.CallsAt k := (laws_eqExprS.calls_all k).2
theorem laws_eqStmt.step (k : Nat) (ih_laws_eqStmt : ∀ m, m < k → laws_eqStmt.CallsAt m) (ih_laws_eqStmtS : ∀ m, m < k → laws_eqStmtS.CallsAt m) : laws_eqStmt.CallsAt k := by
 intro a0_0 a0_1 a0_2 a0_3 a0_4 A0_5 c0_5 l0_5 A0_6 c0_6 l0_6 A0_7 c0_7 l0_7 a1_0 a1_1 a1_2 a1_3 a1_4 A1_5 c1_5 l1_5 A1_6 c1_6 l1_6 A1_7 c1_7 l1_7 r w hr0_5 hc0_5 hr0_6 hc0_6 hr0_7 hc0_7 hr1_5 hc1_5 hr1_6 hc1_6 hr1_7 hc1_7 h
 cases k with
 | zero => exact absurd h (by simp [laws_eqStmt.f])
 | succ k =>
 simp only [laws_eqStmt.f] at h
 have hu58 := Tryz.underlying58
 have hu56 := Tryz.underlying56
 have HR0_5 := am hr0_5
 have HC0_5 := am hc0_5
 clear hr0_5 hc0_5
 have HR0_6 := am hr0_6
 have HC0_6 := am hc0_6
 clear hr0_6 hc0_6
 have HR0_7 := am hr0_7
 have HC0_7 := am hc0_7
 clear hr0_7 hc0_7
 have HR1_5 := am hr1_5
 have HC1_5 := am hc1_5
 clear hr1_5 hc1_5
 have HR1_6 := am hr1_6
 have HC1_6 := am hc1_6
 clear hr1_6 hc1_6
 have HR1_7 := am hr1_7
 have HC1_7 := am hc1_7
 clear hr1_7 hc1_7
 have HB := am (Below.refl w.heap.size w)
 have H : (if a0_0 = a1_0 then (if a0_1 = a1_1 then (if a0_2 = a1_2 then ((laws_eqExpr.f k a0_3 a0_4 l0_5 a1_3 a1_4 l1_5).bind fun t25 => (if t25 = true then ((laws_eqStmtS.f k l0_6 l1_6).bind fun t26 => (if t26 = true then ((laws_eqStmtS.f k l0_7 l1_7).bind fun t27 => (if t27 = true then (some true) else (some false))) else (some false))) else (some false))) else (some false)) else (some false)) else (some false)) = some r := h
 clear h
 have HH_ := am H
 clear H
 go_enter Tryz.func80, Tryz.ntmps80
 go_upto_region 1 with (first | ((with_reducible refine gate_dst (N := 2) rfl ?_); refine box_event rfl (N := 2) rfl (cs := #[.int .i64 a0_0, .int .i64 a0_1, .int .i64 a0_2, .int .i64 a0_3, .int .i64 a0_4, .slice A0_5 l0_5.length c0_5, .slice A0_6 l0_6.length c0_6, .slice A0_7 l0_7.length c0_7]) (t := 58) rn_ ?_; intro gb28 hg w12 hbox hb; have BK28 := am (hbox); have GW28 := am ((by rw [hg]; exact (below_size ab2_) : w.heap.size ≤ gb28)); have GE28 := am ((by rw [hg]; exact (below_size ab2_) : w.heap.size ≤ gb28)); replace HB := am (below_step ab2_ hb); clear hb hbox hg) | ((with_reducible refine gate_dst (N := 3) rfl ?_); refine box_event rfl (N := 3) rfl (cs := #[.int .i64 a1_0, .int .i64 a1_1, .int .i64 a1_2, .int .i64 a1_3, .int .i64 a1_4, .slice A1_5 l1_5.length c1_5, .slice A1_6 l1_6.length c1_6, .slice A1_7 l1_7.length c1_7]) (t := 58) rn_ ?_; intro gb37 hg w13 hbox hb; have BK37 := am (hbox); have GW37 := am ((by rw [hg]; exact (below_size ab116_) : w.heap.size ≤ gb37)); have GE37 := am ((by rw [hg]; exact (below_size ab116_) : w.heap.size ≤ gb37)); replace HB := am (below_step ab116_ hb); have NB28_37 := am ((by rw [hg]; exact Nat.ne_of_lt (blt_ BK28.out) : gb28 ≠ gb37)); have NB37_28 := am ((by rw [hg]; exact Nat.ne_of_gt (blt_ BK28.out) : gb37 ≠ gb28)); replace BK28 := am (bbl_ BK28.out hb); clear hb hbox hg; have hnb14 := NB28_37.out; have hnc14 := NB37_28.out; obtain ⟨hcz15_0, hcz15_1, hcz15_2, hcz15_3, hcz15_4, hcz15_5, hcz15_6, hcz15_7, hfz15_0, hfz15_1, hfz15_2, hfz15_3, hfz15_4, hfz15_5, hfz15_6, hfz15_7⟩ := bcf8_ BK28.out; obtain ⟨hcz16_0, hcz16_1, hcz16_2, hcz16_3, hcz16_4, hcz16_5, hcz16_6, hcz16_7, hfz16_0, hfz16_1, hfz16_2, hfz16_3, hfz16_4, hfz16_5, hfz16_6, hfz16_7⟩ := bcf8_ BK37.out))
 have H := HH_.out
 clear HH_
 by_cases c3 : a0_0 = a1_0
 ·rw [if_pos c3] at H
  have c3b0 : (a0_0 == a1_0) = true := beq_iff_eq.mpr c3
  have c3b1 : (a0_0 != a1_0) = false := bne_eq_false_iff_eq.mpr c3
  clear c3
  by_cases c4 : a0_1 = a1_1
  ·rw [if_pos c4] at H
   have c4b0 : (a0_1 == a1_1) = true := beq_iff_eq.mpr c4
   have c4b1 : (a0_1 != a1_1) = false := bne_eq_false_iff_eq.mpr c4
   clear c4
   by_cases c5 : a0_2 = a1_2
   ·rw [if_pos c5] at H
    have c5b0 : (a0_2 == a1_2) = true := beq_iff_eq.mpr c5
    have c5b1 : (a0_2 != a1_2) = false := bne_eq_false_iff_eq.mpr c5
    clear c5
    obtain ⟨t25, A6, H⟩ := bsa H
    (try dsimp only at H)
    by_cases c7 : t25 = true
    ·subst c7
     rw [if_pos rfl] at H
     obtain ⟨t26, A8, H⟩ := bsa H
     (try dsimp only at H)
     by_cases c9 : t26 = true
     ·subst c9
      rw [if_pos rfl] at H
      obtain ⟨t27, A38, H⟩ := bsm H
      (try dsimp only at H)
      have A10 := am A38
      clear A38
      by_cases c11 : t27 = true
      ·subst c11
       rw [if_pos rfl] at H
       obtain rfl := Option.some.inj H
       go_wp2_with (first | ((with_reducible refine gate_callee (f := 104) rfl ?_); refine gl_ 24 Tryz.func104 #[.agg #[.int .i64 a0_3, .int .i64 a0_4, .slice A0_5 l0_5.length c0_5], .agg #[.int .i64 a1_3, .int .i64 a1_4, .slice A1_5 l1_5.length c1_5]] ?_; (with_reducible refine (laws_eqExpr.calls k a0_3 a0_4 _ _ l0_5 a1_3 a1_4 _ _ l1_5 true _ (aC_ (Kd.C_below HR0_5.out HB.out)) HC0_5.out (aC_ (Kd.C_below HR1_5.out HB.out)) HC1_5.out A6.out).mono ?_); rintro e w17 ⟨rfl, hb⟩; refine ⟨_, rfl, ?_⟩; replace BK28 := am (bbl_ BK28.out hb); replace BK37 := am (bbl_ BK37.out hb); replace HB := am (below_step ab41_ hb); (try clear hb); obtain ⟨hcz18_0, hcz18_1, hcz18_2, hcz18_3, hcz18_4, hcz18_5, hcz18_6, hcz18_7, hfz18_0, hfz18_1, hfz18_2, hfz18_3, hfz18_4, hfz18_5, hfz18_6, hfz18_7⟩ := bcf8_ BK28.out; obtain ⟨hcz19_0, hcz19_1, hcz19_2, hcz19_3, hcz19_4, hcz19_5, hcz19_6, hcz19_7, hfz19_0, hfz19_1, hfz19_2, hfz19_3, hfz19_4, hfz19_5, hfz19_6, hfz19_7⟩ := bcf8_ BK37.out) | ((with_reducible refine gate_callee (f := 57) rfl ?_); refine gl_ 30 Tryz.func57 #[.slice A0_6 l0_6.length c0_6, .slice A1_6 l1_6.length c1_6] ?_; (with_reducible refine (ih_laws_eqStmtS k (by omega) _ _ l0_6 _ _ l1_6 true _ (aC_ (Kd.C_below HR0_6.out HB.out)) HC0_6.out (aC_ (Kd.C_below HR1_6.out HB.out)) HC1_6.out A8.out).mono ?_); rintro e w20 ⟨rfl, hb⟩; refine ⟨_, rfl, ?_⟩; replace BK28 := am (bbl_ BK28.out hb); replace BK37 := am (bbl_ BK37.out hb); replace HB := am (below_step ab41_ hb); (try clear hb); obtain ⟨hcz21_0, hcz21_1, hcz21_2, hcz21_3, hcz21_4, hcz21_5, hcz21_6, hcz21_7, hfz21_0, hfz21_1, hfz21_2, hfz21_3, hfz21_4, hfz21_5, hfz21_6, hfz21_7⟩ := bcf8_ BK28.out; obtain ⟨hcz22_0, hcz22_1, hcz22_2, hcz22_3, hcz22_4, hcz22_5, hcz22_6, hcz22_7, hfz22_0, hfz22_1, hfz22_2, hfz22_3, hfz22_4, hfz22_5, hfz22_6, hfz22_7⟩ := bcf8_ BK37.out) | ((with_reducible refine gate_callee (f := 57) rfl ?_); refine gl_ 36 Tryz.func57 #[.slice A0_7 l0_7.length c0_7, .slice A1_7 l1_7.length c1_7] ?_; (with_reducible refine (ih_laws_eqStmtS k (by omega) _ _ l0_7 _ _ l1_7 true _ (aC_ (Kd.C_below HR0_7.out HB.out)) HC0_7.out (aC_ (Kd.C_below HR1_7.out HB.out)) HC1_7.out A10.out).mono ?_); rintro e w23 ⟨rfl, hb⟩; refine ⟨_, rfl, ?_⟩; replace BK28 := am (bbl_ BK28.out hb); replace BK37 := am (bbl_ BK37.out hb); replace HB := am (below_step ab41_ hb); (try clear hb)))
       go_ret
       exact ⟨rr_, ab41_⟩
      replace c11 := Bool.eq_false_iff.mpr c11
      subst c11
      rw [if_neg (show ¬ (false = true) by decide)] at H
      obtain rfl := Option.some.inj H
      go_wp2_with (first | ((with_reducible refine gate_callee (f := 104) rfl ?_); refine gl_ 24 Tryz.func104 #[.agg #[.int .i64 a0_3, .int .i64 a0_4, .slice A0_5 l0_5.length c0_5], .agg #[.int .i64 a1_3, .int .i64 a1_4, .slice A1_5 l1_5.length c1_5]] ?_; (with_reducible refine (laws_eqExpr.calls k a0_3 a0_4 _ _ l0_5 a1_3 a1_4 _ _ l1_5 true _ (aC_ (Kd.C_below HR0_5.out HB.out)) HC0_5.out (aC_ (Kd.C_below HR1_5.out HB.out)) HC1_5.out A6.out).mono ?_); rintro e w29 ⟨rfl, hb⟩; refine ⟨_, rfl, ?_⟩; replace BK28 := am (bbl_ BK28.out hb); replace BK37 := am (bbl_ BK37.out hb); replace HB := am (below_step ab41_ hb); (try clear hb); obtain ⟨hcz30_0, hcz30_1, hcz30_2, hcz30_3, hcz30_4, hcz30_5, hcz30_6, hcz30_7, hfz30_0, hfz30_1, hfz30_2, hfz30_3, hfz30_4, hfz30_5, hfz30_6, hfz30_7⟩ := bcf8_ BK28.out; obtain ⟨hcz31_0, hcz31_1, hcz31_2, hcz31_3, hcz31_4, hcz31_5, hcz31_6, hcz31_7, hfz31_0, hfz31_1, hfz31_2, hfz31_3, hfz31_4, hfz31_5, hfz31_6, hfz31_7⟩ := bcf8_ BK37.out) | ((with_reducible refine gate_callee (f := 57) rfl ?_); refine gl_ 30 Tryz.func57 #[.slice A0_6 l0_6.length c0_6, .slice A1_6 l1_6.length c1_6] ?_; (with_reducible refine (ih_laws_eqStmtS k (by omega) _ _ l0_6 _ _ l1_6 true _ (aC_ (Kd.C_below HR0_6.out HB.out)) HC0_6.out (aC_ (Kd.C_below HR1_6.out HB.out)) HC1_6.out A8.out).mono ?_); rintro e w32 ⟨rfl, hb⟩; refine ⟨_, rfl, ?_⟩; replace BK28 := am (bbl_ BK28.out hb); replace BK37 := am (bbl_ BK37.out hb); replace HB := am (below_step ab41_ hb); (try clear hb); obtain ⟨hcz33_0, hcz33_1, hcz33_2, hcz33_3, hcz33_4, hcz33_5, hcz33_6, hcz33_7, hfz33_0, hfz33_1, hfz33_2, hfz33_3, hfz33_4, hfz33_5, hfz33_6, hfz33_7⟩ := bcf8_ BK28.out; obtain ⟨hcz34_0, hcz34_1, hcz34_2, hcz34_3, hcz34_4, hcz34_5, hcz34_6, hcz34_7, hfz34_0, hfz34_1, hfz34_2, hfz34_3, hfz34_4, hfz34_5, hfz34_6, hfz34_7⟩ := bcf8_ BK37.out) | ((with_reducible refine gate_callee (f := 57) rfl ?_); refine gl_ 36 Tryz.func57 #[.slice A0_7 l0_7.length c0_7, .slice A1_7 l1_7.length c1_7] ?_; (with_reducible refine (ih_laws_eqStmtS k (by omega) _ _ l0_7 _ _ l1_7 false _ (aC_ (Kd.C_below HR0_7.out HB.out)) HC0_7.out (aC_ (Kd.C_below HR1_7.out HB.out)) HC1_7.out A10.out).mono ?_); rintro e w35 ⟨rfl, hb⟩; refine ⟨_, rfl, ?_⟩; replace BK28 := am (bbl_ BK28.out hb); replace BK37 := am (bbl_ BK37.out hb); replace HB := am (below_step ab41_ hb); (try clear hb)))
      go_ret
      exact ⟨rr_, ab41_⟩
     replace c9 := Bool.eq_false_iff.mpr c9
     subst c9
     rw [if_neg (show ¬ (false = true) by decide)] at H
     obtain rfl := Option.some.inj H
     go_wp2_with (first | ((with_reducible refine gate_callee (f := 104) rfl ?_); refine gl_ 24 Tryz.func104 #[.agg #[.int .i64 a0_3, .int .i64 a0_4, .slice A0_5 l0_5.length c0_5], .agg #[.int .i64 a1_3, .int .i64 a1_4, .slice A1_5 l1_5.length c1_5]] ?_; (with_reducible refine (laws_eqExpr.calls k a0_3 a0_4 _ _ l0_5 a1_3 a1_4 _ _ l1_5 true _ (aC_ (Kd.C_below HR0_5.out HB.out)) HC0_5.out (aC_ (Kd.C_below HR1_5.out HB.out)) HC1_5.out A6.out).mono ?_); rintro e w41 ⟨rfl, hb⟩; refine ⟨_, rfl, ?_⟩; replace BK28 := am (bbl_ BK28.out hb); replace BK37 := am (bbl_ BK37.out hb); replace HB := am (below_step ab41_ hb); (try clear hb); obtain ⟨hcz42_0, hcz42_1, hcz42_2, hcz42_3, hcz42_4, hcz42_5, hcz42_6, hcz42_7, hfz42_0, hfz42_1, hfz42_2, hfz42_3, hfz42_4, hfz42_5, hfz42_6, hfz42_7⟩ := bcf8_ BK28.out; obtain ⟨hcz43_0, hcz43_1, hcz43_2, hcz43_3, hcz43_4, hcz43_5, hcz43_6, hcz43_7, hfz43_0, hfz43_1, hfz43_2, hfz43_3, hfz43_4, hfz43_5, hfz43_6, hfz43_7⟩ := bcf8_ BK37.out) | ((with_reducible refine gate_callee (f := 57) rfl ?_); refine gl_ 30 Tryz.func57 #[.slice A0_6 l0_6.length c0_6, .slice A1_6 l1_6.length c1_6] ?_; (with_reducible refine (ih_laws_eqStmtS k (by omega) _ _ l0_6 _ _ l1_6 false _ (aC_ (Kd.C_below HR0_6.out HB.out)) HC0_6.out (aC_ (Kd.C_below HR1_6.out HB.out)) HC1_6.out A8.out).mono ?_); rintro e w44 ⟨rfl, hb⟩; refine ⟨_, rfl, ?_⟩; replace BK28 := am (bbl_ BK28.out hb); replace BK37 := am (bbl_ BK37.out hb); replace HB := am (below_step ab41_ hb); (try clear hb)))
     go_ret
     exact ⟨rr_, ab41_⟩
    replace c7 := Bool.eq_false_iff.mpr c7
    subst c7
    rw [if_neg (show ¬ (false = true) by decide)] at H
    obtain rfl := Option.some.inj H
    go_wp2_with (first | ((with_reducible refine gate_callee (f := 104) rfl ?_); refine gl_ 24 Tryz.func104 #[.agg #[.int .i64 a0_3, .int .i64 a0_4, .slice A0_5 l0_5.length c0_5], .agg #[.int .i64 a1_3, .int .i64 a1_4, .slice A1_5 l1_5.length c1_5]] ?_; (with_reducible refine (laws_eqExpr.calls k a0_3 a0_4 _ _ l0_5 a1_3 a1_4 _ _ l1_5 false _ (aC_ (Kd.C_below HR0_5.out HB.out)) HC0_5.out (aC_ (Kd.C_below HR1_5.out HB.out)) HC1_5.out A6.out).mono ?_); rintro e w50 ⟨rfl, hb⟩; refine ⟨_, rfl, ?_⟩; replace BK28 := am (bbl_ BK28.out hb); replace BK37 := am (bbl_ BK37.out hb); replace HB := am (below_step ab41_ hb); (try clear hb)))
    go_ret
    exact ⟨rr_, ab41_⟩
   rw [if_neg c5] at H
   have c5b0 : (a0_2 == a1_2) = false := beq_eq_false_iff_ne.mpr c5
   have c5b1 : (a0_2 != a1_2) = true := bne_iff_ne.mpr c5
   obtain rfl := Option.some.inj H
   go_wp2
   go_ret
   exact ⟨rr_, ab41_⟩
  rw [if_neg c4] at H
  have c4b0 : (a0_1 == a1_1) = false := beq_eq_false_iff_ne.mpr c4
  have c4b1 : (a0_1 != a1_1) = true := bne_iff_ne.mpr c4
  obtain rfl := Option.some.inj H
  go_wp2
  go_ret
  exact ⟨rr_, ab41_⟩
 rw [if_neg c3] at H
 have c3b0 : (a0_0 == a1_0) = false := beq_eq_false_iff_ne.mpr c3
 have c3b1 : (a0_0 != a1_0) = true := bne_iff_ne.mpr c3
 obtain rfl := Option.some.inj H
 go_wp2
 go_ret
 exact ⟨rr_, ab41_⟩
def laws_eqStmtS.T6 : Bool × List (List Nat × List Nat) := (true, [([], []), ([], []), ([0, 1], [0, 1]), ([2], [2]), ([], []), ([], []), ([4, 5], [4, 5]), ([6], [6]), ([3, 7], [3, 7]), ([8], [8])])
def laws_eqStmtS.B6 : List Nat := [0, 0, 3, 7, 0, 0, 48, 112, 255, 511]
theorem laws_eqStmtS.tab6 : rtab .any (opsOf Tryz.f57 6) = laws_eqStmtS.T6 := by kernel_rfl
theorem laws_eqStmtS.bits6 : waitsOk laws_eqStmtS.T6.2 laws_eqStmtS.B6 = true := by kernel_rfl
theorem laws_eqStmtS.step (k : Nat) (ih_laws_eqStmt : ∀ m, m < k → laws_eqStmt.CallsAt m) (ih_laws_eqStmtS : ∀ m, m < k → laws_eqStmtS.CallsAt m) : laws_eqStmtS.CallsAt k := by
 intro A0 c0 l0 A1 c1 l1 r w hr0 hc0 hr1 hc1 h
 cases k with
 | zero => exact absurd h (by simp [laws_eqStmtS.f])
 | succ k =>
 simp only [laws_eqStmtS.f] at h
 have hu58 := Tryz.underlying58
 have HR0 := am hr0
 have HC0 := am hc0
 clear hr0 hc0
 have HR1 := am hr1
 have HC1 := am hc1
 clear hr1 hc1
 have HB := am (Below.refl w.heap.size w)
 have H : (if (l0.length : Int) = (l1.length : Int) then (laws_eqStmtS.l0 k l0 l1 0) else (some false)) = some r := h
 clear h
 by_cases c3 : (l0.length : Int) = (l1.length : Int)
 ·rw [if_pos c3] at H
  have c3b0 : ((l0.length : Int) == (l1.length : Int)) = true := beq_iff_eq.mpr c3
  have c3b1 : ((l0.length : Int) != (l1.length : Int)) = false := bne_eq_false_iff_eq.mpr c3
  have c3b2 : (l0.length == l1.length) = true := by first | simpa using c3 | (simp at c3 ⊢; omega)
  clear c3
  have H' := am H
  clear H
  go_enter Tryz.func57, Tryz.ntmps57
  go_wp2
  go_loopg [5] k (fun kq v5 w' => ∃ (x5_1 : Int), v5 = .int .i64 x5_1 ∧ Aside0 (laws_eqStmtS.l0 kq l0 l1 x5_1 = some r) ∧ Aside0 (kq ≤ k) ∧ Aside0 (Below w.heap.size w w'))
  case atStart => exact ⟨(0), sd_, H', ⟨Nat.le_refl _⟩, ⟨ab2_⟩⟩
  case round =>
   clear H'
   try clear c1
   try clear c3
   try clear c3b0
   try clear c3b1
   try clear c3b2
   obtain ⟨x5_1, rfl, HA, HK1, HB⟩ := hrel
   cases gk with
   | zero => exact absurd HA.out (by simp [laws_eqStmtS.l0])
   | succ k1 =>
    have H := HA.out
    clear HA
    simp only [laws_eqStmtS.l0] at H
    by_cases c4 : x5_1 < (l0.length : Int)
    ·rw [if_pos c4] at H
     have c4b0 : decide (x5_1 < (l0.length : Int)) = true := decide_eq_true c4
     clear c4
     by_cases c5 : 0 ≤ x5_1
     ·rw [if_pos c5] at H
      have c5b0 : decide (0 ≤ x5_1) = true := decide_eq_true c5
      clear c5
      by_cases c6 : x5_1 < (l1.length : Int)
      ·rw [if_pos c6] at H
       have c6b0 : decide (x5_1 < (l1.length : Int)) = true := decide_eq_true c6
       clear c6
       obtain ⟨t27, A7, H⟩ := bsa H
       (try dsimp only at H)
       by_cases c8 : t27 = true
       ·subst c8
        rw [if_pos rfl] at H
        have H' := am H
        clear H
        try go_wp2
        replace HB := am (below_drew1 HB.out)
        have p28 : 0 ≤ (x5_1 : Int) := of_decide_eq_true asm_
        have q28 : x5_1 < (l0.length : Int) := of_decide_eq_true asm_
        obtain ⟨ad28, A28_5, c28_5, A28_6, c28_6, A28_7, c28_7, e28, hx28_0, hx28_1, hx28_2, hx28_3, hx28_4, hx28_5, hx28_6, hx28_7, hl28_5, hi28_5, hl28_6, hi28_6, hl28_7, hi28_7⟩ := at_T58 HR0.out x5_1 p28 q28
        have hw28_7 := hx28_7
        have hw28_6 := hx28_6
        have hw28_5 := hx28_5
        have hw28_4 := hx28_4
        have hw28_3 := hx28_3
        have hw28_2 := hx28_2
        have hw28_1 := hx28_1
        have hw28_0 := hx28_0
        cases e28
        replace hx28_0 := (HB.out.cell (World.block_lt_of_cell? w _ hx28_0)).trans hx28_0
        replace hx28_1 := (HB.out.cell (World.block_lt_of_cell? w _ hx28_1)).trans hx28_1
        replace hx28_2 := (HB.out.cell (World.block_lt_of_cell? w _ hx28_2)).trans hx28_2
        replace hx28_3 := (HB.out.cell (World.block_lt_of_cell? w _ hx28_3)).trans hx28_3
        replace hx28_4 := (HB.out.cell (World.block_lt_of_cell? w _ hx28_4)).trans hx28_4
        replace hx28_5 := (HB.out.cell (World.block_lt_of_cell? w _ hx28_5)).trans hx28_5
        replace hx28_6 := (HB.out.cell (World.block_lt_of_cell? w _ hx28_6)).trans hx28_6
        replace hx28_7 := (HB.out.cell (World.block_lt_of_cell? w _ hx28_7)).trans hx28_7
        have HR28_5 := am hi28_5
        have HC28_5 := am hl28_5
        clear hi28_5 hl28_5
        have HR28_6 := am hi28_6
        have HC28_6 := am hl28_6
        clear hi28_6 hl28_6
        have HR28_7 := am hi28_7
        have HC28_7 := am hl28_7
        clear hi28_7 hl28_7
        replace p28 := eq_true p28
        replace q28 := eq_true q28
        have p29 : 0 ≤ (x5_1 : Int) := of_decide_eq_true asm_
        have q29 : x5_1 < (l1.length : Int) := of_decide_eq_true asm_
        obtain ⟨ad29, A29_5, c29_5, A29_6, c29_6, A29_7, c29_7, e29, hx29_0, hx29_1, hx29_2, hx29_3, hx29_4, hx29_5, hx29_6, hx29_7, hl29_5, hi29_5, hl29_6, hi29_6, hl29_7, hi29_7⟩ := at_T58 HR1.out x5_1 p29 q29
        have hw29_7 := hx29_7
        have hw29_6 := hx29_6
        have hw29_5 := hx29_5
        have hw29_4 := hx29_4
        have hw29_3 := hx29_3
        have hw29_2 := hx29_2
        have hw29_1 := hx29_1
        have hw29_0 := hx29_0
        cases e29
        replace hx29_0 := (HB.out.cell (World.block_lt_of_cell? w _ hx29_0)).trans hx29_0
        replace hx29_1 := (HB.out.cell (World.block_lt_of_cell? w _ hx29_1)).trans hx29_1
        replace hx29_2 := (HB.out.cell (World.block_lt_of_cell? w _ hx29_2)).trans hx29_2
        replace hx29_3 := (HB.out.cell (World.block_lt_of_cell? w _ hx29_3)).trans hx29_3
        replace hx29_4 := (HB.out.cell (World.block_lt_of_cell? w _ hx29_4)).trans hx29_4
        replace hx29_5 := (HB.out.cell (World.block_lt_of_cell? w _ hx29_5)).trans hx29_5
        replace hx29_6 := (HB.out.cell (World.block_lt_of_cell? w _ hx29_6)).trans hx29_6
        replace hx29_7 := (HB.out.cell (World.block_lt_of_cell? w _ hx29_7)).trans hx29_7
        have HR29_5 := am hi29_5
        have HC29_5 := am hl29_5
        clear hi29_5 hl29_5
        have HR29_6 := am hi29_6
        have HC29_6 := am hl29_6
        clear hi29_6 hl29_6
        have HR29_7 := am hi29_7
        have HC29_7 := am hl29_7
        clear hi29_7 hl29_7
        replace p29 := eq_true p29
        replace q29 := eq_true q29
        refine start_ (n := 10) (S := fun w' => w'.cell? (ad28.add ((x5_1).toNat * 8)) = some (.int .i64 ((rd_T58 l0 x5_1).f0)) ∧ w'.cell? ⟨(ad28.add ((x5_1).toNat * 8)).block, (ad28.add ((x5_1).toNat * 8)).off + 1, none⟩ = some (.int .i64 ((rd_T58 l0 x5_1).f1)) ∧ w'.cell? ⟨(ad28.add ((x5_1).toNat * 8)).block, (ad28.add ((x5_1).toNat * 8)).off + 2, none⟩ = some (.int .i64 ((rd_T58 l0 x5_1).f2)) ∧ w'.cell? ⟨(ad28.add ((x5_1).toNat * 8)).block, (ad28.add ((x5_1).toNat * 8)).off + 3, none⟩ = some (.int .i64 ((rd_T58 l0 x5_1).f3.f0)) ∧ w'.cell? ⟨(ad28.add ((x5_1).toNat * 8)).block, (ad28.add ((x5_1).toNat * 8)).off + 4, none⟩ = some (.int .i64 ((rd_T58 l0 x5_1).f3.f1)) ∧ w'.cell? ⟨(ad28.add ((x5_1).toNat * 8)).block, (ad28.add ((x5_1).toNat * 8)).off + 5, none⟩ = some (.slice A28_5 ((rd_T58 l0 x5_1).f3.f2).length c28_5) ∧ w'.cell? ⟨(ad28.add ((x5_1).toNat * 8)).block, (ad28.add ((x5_1).toNat * 8)).off + 6, none⟩ = some (.slice A28_6 ((rd_T58 l0 x5_1).f4).length c28_6) ∧ w'.cell? ⟨(ad28.add ((x5_1).toNat * 8)).block, (ad28.add ((x5_1).toNat * 8)).off + 7, none⟩ = some (.slice A28_7 ((rd_T58 l0 x5_1).f5).length c28_7) ∧ w'.cell? (ad29.add ((x5_1).toNat * 8)) = some (.int .i64 ((rd_T58 l1 x5_1).f0)) ∧ w'.cell? ⟨(ad29.add ((x5_1).toNat * 8)).block, (ad29.add ((x5_1).toNat * 8)).off + 1, none⟩ = some (.int .i64 ((rd_T58 l1 x5_1).f1)) ∧ w'.cell? ⟨(ad29.add ((x5_1).toNat * 8)).block, (ad29.add ((x5_1).toNat * 8)).off + 2, none⟩ = some (.int .i64 ((rd_T58 l1 x5_1).f2)) ∧ w'.cell? ⟨(ad29.add ((x5_1).toNat * 8)).block, (ad29.add ((x5_1).toNat * 8)).off + 3, none⟩ = some (.int .i64 ((rd_T58 l1 x5_1).f3.f0)) ∧ w'.cell? ⟨(ad29.add ((x5_1).toNat * 8)).block, (ad29.add ((x5_1).toNat * 8)).off + 4, none⟩ = some (.int .i64 ((rd_T58 l1 x5_1).f3.f1)) ∧ w'.cell? ⟨(ad29.add ((x5_1).toNat * 8)).block, (ad29.add ((x5_1).toNat * 8)).off + 5, none⟩ = some (.slice A29_5 ((rd_T58 l1 x5_1).f3.f2).length c29_5) ∧ w'.cell? ⟨(ad29.add ((x5_1).toNat * 8)).block, (ad29.add ((x5_1).toNat * 8)).off + 6, none⟩ = some (.slice A29_6 ((rd_T58 l1 x5_1).f4).length c29_6) ∧ w'.cell? ⟨(ad29.add ((x5_1).toNat * 8)).block, (ad29.add ((x5_1).toNat * 8)).off + 7, none⟩ = some (.slice A29_7 ((rd_T58 l1 x5_1).f5).length c29_7)) (ds := []) (bz 10 0) (by kernel_rfl) rfl rfl ⟨((HB.out.cell (World.block_lt_of_cell? w _ hw28_0)).trans hw28_0), ((HB.out.cell (World.block_lt_of_cell? w _ hw28_1)).trans hw28_1), ((HB.out.cell (World.block_lt_of_cell? w _ hw28_2)).trans hw28_2), ((HB.out.cell (World.block_lt_of_cell? w _ hw28_3)).trans hw28_3), ((HB.out.cell (World.block_lt_of_cell? w _ hw28_4)).trans hw28_4), ((HB.out.cell (World.block_lt_of_cell? w _ hw28_5)).trans hw28_5), ((HB.out.cell (World.block_lt_of_cell? w _ hw28_6)).trans hw28_6), ((HB.out.cell (World.block_lt_of_cell? w _ hw28_7)).trans hw28_7), ((HB.out.cell (World.block_lt_of_cell? w _ hw29_0)).trans hw29_0), ((HB.out.cell (World.block_lt_of_cell? w _ hw29_1)).trans hw29_1), ((HB.out.cell (World.block_lt_of_cell? w _ hw29_2)).trans hw29_2), ((HB.out.cell (World.block_lt_of_cell? w _ hw29_3)).trans hw29_3), ((HB.out.cell (World.block_lt_of_cell? w _ hw29_4)).trans hw29_4), ((HB.out.cell (World.block_lt_of_cell? w _ hw29_5)).trans hw29_5), ((HB.out.cell (World.block_lt_of_cell? w _ hw29_6)).trans hw29_6), ((HB.out.cell (World.block_lt_of_cell? w _ hw29_7)).trans hw29_7)⟩ (fun hHeld => ?_); refine with_tabW laws_eqStmtS.tab6 laws_eqStmtS.bits6 (fun HT_ HW_ => ?_)
        generalize wr.drew = w9 at HB HR28_5 HR28_6 HR28_7 HR29_5 HR29_6 HR29_7 hx28_0 hx28_1 hx28_2 hx28_3 hx28_4 hx28_5 hx28_6 hx28_7 hx29_0 hx29_1 hx29_2 hx29_3 hx29_4 hx29_5 hx29_6 hx29_7 hHeld ⊢
        refine pr_ 0 17 (bz 10 1) HT_ ?_
        refine pr_ 1 18 (bz 10 3) HT_ ?_
        refine pr_ 2 19 (bz 10 7) HT_ ?_
        refine pr_ 4 21 (bz 10 23) HT_ ?_
        refine pr_ 5 22 (bz 10 55) HT_ ?_
        refine pr_ 6 23 (bz 10 119) HT_ ?_
        refine tk16_ 3 20 (bz 10 127) HT_ HW_ hHeld ?_
        refine tk16_ 7 24 (bz 10 255) HT_ HW_ hHeld ?_
        refine one_ (i := 8) (N := some 25) (bz 10 511) rfl rfl (one_of HT_.out (by kernel_rfl)) (by decide) (fun K hK => ?_)
        refine goes_ Tryz.func80 (by kernel_rfl) rfl #[.agg #[.int .i64 ((rd_T58 l0 x5_1).f0), .int .i64 ((rd_T58 l0 x5_1).f1), .int .i64 ((rd_T58 l0 x5_1).f2), .int .i64 ((rd_T58 l0 x5_1).f3.f0), .int .i64 ((rd_T58 l0 x5_1).f3.f1), .slice A28_5 ((rd_T58 l0 x5_1).f3.f2).length c28_5, .slice A28_6 ((rd_T58 l0 x5_1).f4).length c28_6, .slice A28_7 ((rd_T58 l0 x5_1).f5).length c28_7], .agg #[.int .i64 ((rd_T58 l1 x5_1).f0), .int .i64 ((rd_T58 l1 x5_1).f1), .int .i64 ((rd_T58 l1 x5_1).f2), .int .i64 ((rd_T58 l1 x5_1).f3.f0), .int .i64 ((rd_T58 l1 x5_1).f3.f1), .slice A29_5 ((rd_T58 l1 x5_1).f3.f2).length c29_5, .slice A29_6 ((rd_T58 l1 x5_1).f4).length c29_6, .slice A29_7 ((rd_T58 l1 x5_1).f5).length c29_7]] (by rfl) rfl rfl ab1_ ?_
        with_reducible refine (ih_laws_eqStmt k1 (by have := HK1.out; omega) ((rd_T58 l0 x5_1).f0) ((rd_T58 l0 x5_1).f1) ((rd_T58 l0 x5_1).f2) ((rd_T58 l0 x5_1).f3.f0) ((rd_T58 l0 x5_1).f3.f1) _ _ ((rd_T58 l0 x5_1).f3.f2) _ _ ((rd_T58 l0 x5_1).f4) _ _ ((rd_T58 l0 x5_1).f5) ((rd_T58 l1 x5_1).f0) ((rd_T58 l1 x5_1).f1) ((rd_T58 l1 x5_1).f2) ((rd_T58 l1 x5_1).f3.f0) ((rd_T58 l1 x5_1).f3.f1) _ _ ((rd_T58 l1 x5_1).f3.f2) _ _ ((rd_T58 l1 x5_1).f4) _ _ ((rd_T58 l1 x5_1).f5) true _ (aC_ (Kd.C_below HR28_5.out HB.out)) HC28_5.out (aC_ (Kd.C_below HR28_6.out HB.out)) HC28_6.out (aC_ (Kd.C_below HR28_7.out HB.out)) HC28_7.out (aC_ (Kd.C_below HR29_5.out HB.out)) HC29_5.out (aC_ (Kd.C_below HR29_6.out HB.out)) HC29_6.out (aC_ (Kd.C_below HR29_7.out HB.out)) HC29_7.out A7.out).mono ?_
        rintro e w10 ⟨rfl, hb⟩
        refine ⟨_, rfl, ?_⟩
        replace HB := am (below_step ab2_ hb)
        (try clear hb)
        (try clear hb2)
        (try clear hk)
        (try clear hi)
        refine hK.out _ _ ⟨((HB.out.cell (World.block_lt_of_cell? w _ hw28_0)).trans hw28_0), ((HB.out.cell (World.block_lt_of_cell? w _ hw28_1)).trans hw28_1), ((HB.out.cell (World.block_lt_of_cell? w _ hw28_2)).trans hw28_2), ((HB.out.cell (World.block_lt_of_cell? w _ hw28_3)).trans hw28_3), ((HB.out.cell (World.block_lt_of_cell? w _ hw28_4)).trans hw28_4), ((HB.out.cell (World.block_lt_of_cell? w _ hw28_5)).trans hw28_5), ((HB.out.cell (World.block_lt_of_cell? w _ hw28_6)).trans hw28_6), ((HB.out.cell (World.block_lt_of_cell? w _ hw28_7)).trans hw28_7), ((HB.out.cell (World.block_lt_of_cell? w _ hw29_0)).trans hw29_0), ((HB.out.cell (World.block_lt_of_cell? w _ hw29_1)).trans hw29_1), ((HB.out.cell (World.block_lt_of_cell? w _ hw29_2)).trans hw29_2), ((HB.out.cell (World.block_lt_of_cell? w _ hw29_3)).trans hw29_3), ((HB.out.cell (World.block_lt_of_cell? w _ hw29_4)).trans hw29_4), ((HB.out.cell (World.block_lt_of_cell? w _ hw29_5)).trans hw29_5), ((HB.out.cell (World.block_lt_of_cell? w _ hw29_6)).trans hw29_6), ((HB.out.cell (World.block_lt_of_cell? w _ hw29_7)).trans hw29_7)⟩ (fun hHeld => ?_)
        clear hK K
        refine norm_ (a' := ?_) ?_ ?_
        rotate_left
        ·show Act.put _ (some 25) _ = _
         simp only [Act.put, List.setIfInBounds_toArray, List.set_cons_zero, List.set_cons_succ, i64_w, i32_w]
         rfl
        refine pr_ 9 26 (bz 10 1023) HT_ ?_
        refine done_ (done_of HT_.out (by kernel_rfl)) ?_
        try go_wp2
        go_roundg k1
        case measure => have := HK1.out; omega
        case rel => exact ⟨(wrap64 (x5_1 + 1)), sd_, H', ⟨by have := HK1.out; omega⟩, ⟨ab2_⟩⟩
       replace c8 := Bool.eq_false_iff.mpr c8
       subst c8
       rw [if_neg (show ¬ (false = true) by decide)] at H
       obtain rfl := Option.some.inj H
       try go_wp2
       replace HB := am (below_drew1 HB.out)
       have p28 : 0 ≤ (x5_1 : Int) := of_decide_eq_true asm_
       have q28 : x5_1 < (l0.length : Int) := of_decide_eq_true asm_
       obtain ⟨ad28, A28_5, c28_5, A28_6, c28_6, A28_7, c28_7, e28, hx28_0, hx28_1, hx28_2, hx28_3, hx28_4, hx28_5, hx28_6, hx28_7, hl28_5, hi28_5, hl28_6, hi28_6, hl28_7, hi28_7⟩ := at_T58 HR0.out x5_1 p28 q28
       have hw28_7 := hx28_7
       have hw28_6 := hx28_6
       have hw28_5 := hx28_5
       have hw28_4 := hx28_4
       have hw28_3 := hx28_3
       have hw28_2 := hx28_2
       have hw28_1 := hx28_1
       have hw28_0 := hx28_0
       cases e28
       replace hx28_0 := (HB.out.cell (World.block_lt_of_cell? w _ hx28_0)).trans hx28_0
       replace hx28_1 := (HB.out.cell (World.block_lt_of_cell? w _ hx28_1)).trans hx28_1
       replace hx28_2 := (HB.out.cell (World.block_lt_of_cell? w _ hx28_2)).trans hx28_2
       replace hx28_3 := (HB.out.cell (World.block_lt_of_cell? w _ hx28_3)).trans hx28_3
       replace hx28_4 := (HB.out.cell (World.block_lt_of_cell? w _ hx28_4)).trans hx28_4
       replace hx28_5 := (HB.out.cell (World.block_lt_of_cell? w _ hx28_5)).trans hx28_5
       replace hx28_6 := (HB.out.cell (World.block_lt_of_cell? w _ hx28_6)).trans hx28_6
       replace hx28_7 := (HB.out.cell (World.block_lt_of_cell? w _ hx28_7)).trans hx28_7
       have HR28_5 := am hi28_5
       have HC28_5 := am hl28_5
       clear hi28_5 hl28_5
       have HR28_6 := am hi28_6
       have HC28_6 := am hl28_6
       clear hi28_6 hl28_6
       have HR28_7 := am hi28_7
       have HC28_7 := am hl28_7
       clear hi28_7 hl28_7
       replace p28 := eq_true p28
       replace q28 := eq_true q28
       have p29 : 0 ≤ (x5_1 : Int) := of_decide_eq_true asm_
       have q29 : x5_1 < (l1.length : Int) := of_decide_eq_true asm_
       obtain ⟨ad29, A29_5, c29_5, A29_6, c29_6, A29_7, c29_7, e29, hx29_0, hx29_1, hx29_2, hx29_3, hx29_4, hx29_5, hx29_6, hx29_7, hl29_5, hi29_5, hl29_6, hi29_6, hl29_7, hi29_7⟩ := at_T58 HR1.out x5_1 p29 q29
       have hw29_7 := hx29_7
       have hw29_6 := hx29_6
       have hw29_5 := hx29_5
       have hw29_4 := hx29_4
       have hw29_3 := hx29_3
       have hw29_2 := hx29_2
       have hw29_1 := hx29_1
       have hw29_0 := hx29_0
       cases e29
       replace hx29_0 := (HB.out.cell (World.block_lt_of_cell? w _ hx29_0)).trans hx29_0
       replace hx29_1 := (HB.out.cell (World.block_lt_of_cell? w _ hx29_1)).trans hx29_1
       replace hx29_2 := (HB.out.cell (World.block_lt_of_cell? w _ hx29_2)).trans hx29_2
       replace hx29_3 := (HB.out.cell (World.block_lt_of_cell? w _ hx29_3)).trans hx29_3
       replace hx29_4 := (HB.out.cell (World.block_lt_of_cell? w _ hx29_4)).trans hx29_4
       replace hx29_5 := (HB.out.cell (World.block_lt_of_cell? w _ hx29_5)).trans hx29_5
       replace hx29_6 := (HB.out.cell (World.block_lt_of_cell? w _ hx29_6)).trans hx29_6
       replace hx29_7 := (HB.out.cell (World.block_lt_of_cell? w _ hx29_7)).trans hx29_7
       have HR29_5 := am hi29_5
       have HC29_5 := am hl29_5
       clear hi29_5 hl29_5
       have HR29_6 := am hi29_6
       have HC29_6 := am hl29_6
       clear hi29_6 hl29_6
       have HR29_7 := am hi29_7
       have HC29_7 := am hl29_7
       clear hi29_7 hl29_7
       replace p29 := eq_true p29
       replace q29 := eq_true q29
       refine start_ (n := 10) (S := fun w' => w'.cell? (ad28.add ((x5_1).toNat * 8)) = some (.int .i64 ((rd_T58 l0 x5_1).f0)) ∧ w'.cell? ⟨(ad28.add ((x5_1).toNat * 8)).block, (ad28.add ((x5_1).toNat * 8)).off + 1, none⟩ = some (.int .i64 ((rd_T58 l0 x5_1).f1)) ∧ w'.cell? ⟨(ad28.add ((x5_1).toNat * 8)).block, (ad28.add ((x5_1).toNat * 8)).off + 2, none⟩ = some (.int .i64 ((rd_T58 l0 x5_1).f2)) ∧ w'.cell? ⟨(ad28.add ((x5_1).toNat * 8)).block, (ad28.add ((x5_1).toNat * 8)).off + 3, none⟩ = some (.int .i64 ((rd_T58 l0 x5_1).f3.f0)) ∧ w'.cell? ⟨(ad28.add ((x5_1).toNat * 8)).block, (ad28.add ((x5_1).toNat * 8)).off + 4, none⟩ = some (.int .i64 ((rd_T58 l0 x5_1).f3.f1)) ∧ w'.cell? ⟨(ad28.add ((x5_1).toNat * 8)).block, (ad28.add ((x5_1).toNat * 8)).off + 5, none⟩ = some (.slice A28_5 ((rd_T58 l0 x5_1).f3.f2).length c28_5) ∧ w'.cell? ⟨(ad28.add ((x5_1).toNat * 8)).block, (ad28.add ((x5_1).toNat * 8)).off + 6, none⟩ = some (.slice A28_6 ((rd_T58 l0 x5_1).f4).length c28_6) ∧ w'.cell? ⟨(ad28.add ((x5_1).toNat * 8)).block, (ad28.add ((x5_1).toNat * 8)).off + 7, none⟩ = some (.slice A28_7 ((rd_T58 l0 x5_1).f5).length c28_7) ∧ w'.cell? (ad29.add ((x5_1).toNat * 8)) = some (.int .i64 ((rd_T58 l1 x5_1).f0)) ∧ w'.cell? ⟨(ad29.add ((x5_1).toNat * 8)).block, (ad29.add ((x5_1).toNat * 8)).off + 1, none⟩ = some (.int .i64 ((rd_T58 l1 x5_1).f1)) ∧ w'.cell? ⟨(ad29.add ((x5_1).toNat * 8)).block, (ad29.add ((x5_1).toNat * 8)).off + 2, none⟩ = some (.int .i64 ((rd_T58 l1 x5_1).f2)) ∧ w'.cell? ⟨(ad29.add ((x5_1).toNat * 8)).block, (ad29.add ((x5_1).toNat * 8)).off + 3, none⟩ = some (.int .i64 ((rd_T58 l1 x5_1).f3.f0)) ∧ w'.cell? ⟨(ad29.add ((x5_1).toNat * 8)).block, (ad29.add ((x5_1).toNat * 8)).off + 4, none⟩ = some (.int .i64 ((rd_T58 l1 x5_1).f3.f1)) ∧ w'.cell? ⟨(ad29.add ((x5_1).toNat * 8)).block, (ad29.add ((x5_1).toNat * 8)).off + 5, none⟩ = some (.slice A29_5 ((rd_T58 l1 x5_1).f3.f2).length c29_5) ∧ w'.cell? ⟨(ad29.add ((x5_1).toNat * 8)).block, (ad29.add ((x5_1).toNat * 8)).off + 6, none⟩ = some (.slice A29_6 ((rd_T58 l1 x5_1).f4).length c29_6) ∧ w'.cell? ⟨(ad29.add ((x5_1).toNat * 8)).block, (ad29.add ((x5_1).toNat * 8)).off + 7, none⟩ = some (.slice A29_7 ((rd_T58 l1 x5_1).f5).length c29_7)) (ds := []) (bz 10 0) (by kernel_rfl) rfl rfl ⟨((HB.out.cell (World.block_lt_of_cell? w _ hw28_0)).trans hw28_0), ((HB.out.cell (World.block_lt_of_cell? w _ hw28_1)).trans hw28_1), ((HB.out.cell (World.block_lt_of_cell? w _ hw28_2)).trans hw28_2), ((HB.out.cell (World.block_lt_of_cell? w _ hw28_3)).trans hw28_3), ((HB.out.cell (World.block_lt_of_cell? w _ hw28_4)).trans hw28_4), ((HB.out.cell (World.block_lt_of_cell? w _ hw28_5)).trans hw28_5), ((HB.out.cell (World.block_lt_of_cell? w _ hw28_6)).trans hw28_6), ((HB.out.cell (World.block_lt_of_cell? w _ hw28_7)).trans hw28_7), ((HB.out.cell (World.block_lt_of_cell? w _ hw29_0)).trans hw29_0), ((HB.out.cell (World.block_lt_of_cell? w _ hw29_1)).trans hw29_1), ((HB.out.cell (World.block_lt_of_cell? w _ hw29_2)).trans hw29_2), ((HB.out.cell (World.block_lt_of_cell? w _ hw29_3)).trans hw29_3), ((HB.out.cell (World.block_lt_of_cell? w _ hw29_4)).trans hw29_4), ((HB.out.cell (World.block_lt_of_cell? w _ hw29_5)).trans hw29_5), ((HB.out.cell (World.block_lt_of_cell? w _ hw29_6)).trans hw29_6), ((HB.out.cell (World.block_lt_of_cell? w _ hw29_7)).trans hw29_7)⟩ (fun hHeld => ?_); refine with_tabW laws_eqStmtS.tab6 laws_eqStmtS.bits6 (fun HT_ HW_ => ?_)
       generalize wr.drew = w11 at HB HR28_5 HR28_6 HR28_7 HR29_5 HR29_6 HR29_7 hx28_0 hx28_1 hx28_2 hx28_3 hx28_4 hx28_5 hx28_6 hx28_7 hx29_0 hx29_1 hx29_2 hx29_3 hx29_4 hx29_5 hx29_6 hx29_7 hHeld ⊢
       refine pr_ 0 17 (bz 10 1) HT_ ?_
       refine pr_ 1 18 (bz 10 3) HT_ ?_
       refine pr_ 2 19 (bz 10 7) HT_ ?_
       refine pr_ 4 21 (bz 10 23) HT_ ?_
       refine pr_ 5 22 (bz 10 55) HT_ ?_
       refine pr_ 6 23 (bz 10 119) HT_ ?_
       refine tk16_ 3 20 (bz 10 127) HT_ HW_ hHeld ?_
       refine tk16_ 7 24 (bz 10 255) HT_ HW_ hHeld ?_
       refine one_ (i := 8) (N := some 25) (bz 10 511) rfl rfl (one_of HT_.out (by kernel_rfl)) (by decide) (fun K hK => ?_)
       refine goes_ Tryz.func80 (by kernel_rfl) rfl #[.agg #[.int .i64 ((rd_T58 l0 x5_1).f0), .int .i64 ((rd_T58 l0 x5_1).f1), .int .i64 ((rd_T58 l0 x5_1).f2), .int .i64 ((rd_T58 l0 x5_1).f3.f0), .int .i64 ((rd_T58 l0 x5_1).f3.f1), .slice A28_5 ((rd_T58 l0 x5_1).f3.f2).length c28_5, .slice A28_6 ((rd_T58 l0 x5_1).f4).length c28_6, .slice A28_7 ((rd_T58 l0 x5_1).f5).length c28_7], .agg #[.int .i64 ((rd_T58 l1 x5_1).f0), .int .i64 ((rd_T58 l1 x5_1).f1), .int .i64 ((rd_T58 l1 x5_1).f2), .int .i64 ((rd_T58 l1 x5_1).f3.f0), .int .i64 ((rd_T58 l1 x5_1).f3.f1), .slice A29_5 ((rd_T58 l1 x5_1).f3.f2).length c29_5, .slice A29_6 ((rd_T58 l1 x5_1).f4).length c29_6, .slice A29_7 ((rd_T58 l1 x5_1).f5).length c29_7]] (by rfl) rfl rfl ab1_ ?_
       with_reducible refine (ih_laws_eqStmt k1 (by have := HK1.out; omega) ((rd_T58 l0 x5_1).f0) ((rd_T58 l0 x5_1).f1) ((rd_T58 l0 x5_1).f2) ((rd_T58 l0 x5_1).f3.f0) ((rd_T58 l0 x5_1).f3.f1) _ _ ((rd_T58 l0 x5_1).f3.f2) _ _ ((rd_T58 l0 x5_1).f4) _ _ ((rd_T58 l0 x5_1).f5) ((rd_T58 l1 x5_1).f0) ((rd_T58 l1 x5_1).f1) ((rd_T58 l1 x5_1).f2) ((rd_T58 l1 x5_1).f3.f0) ((rd_T58 l1 x5_1).f3.f1) _ _ ((rd_T58 l1 x5_1).f3.f2) _ _ ((rd_T58 l1 x5_1).f4) _ _ ((rd_T58 l1 x5_1).f5) false _ (aC_ (Kd.C_below HR28_5.out HB.out)) HC28_5.out (aC_ (Kd.C_below HR28_6.out HB.out)) HC28_6.out (aC_ (Kd.C_below HR28_7.out HB.out)) HC28_7.out (aC_ (Kd.C_below HR29_5.out HB.out)) HC29_5.out (aC_ (Kd.C_below HR29_6.out HB.out)) HC29_6.out (aC_ (Kd.C_below HR29_7.out HB.out)) HC29_7.out A7.out).mono ?_
       rintro e w12 ⟨rfl, hb⟩
       refine ⟨_, rfl, ?_⟩
       replace HB := am (below_step ab2_ hb)
       (try clear hb)
       (try clear hb2)
       (try clear hk)
       (try clear hi)
       refine hK.out _ _ ⟨((HB.out.cell (World.block_lt_of_cell? w _ hw28_0)).trans hw28_0), ((HB.out.cell (World.block_lt_of_cell? w _ hw28_1)).trans hw28_1), ((HB.out.cell (World.block_lt_of_cell? w _ hw28_2)).trans hw28_2), ((HB.out.cell (World.block_lt_of_cell? w _ hw28_3)).trans hw28_3), ((HB.out.cell (World.block_lt_of_cell? w _ hw28_4)).trans hw28_4), ((HB.out.cell (World.block_lt_of_cell? w _ hw28_5)).trans hw28_5), ((HB.out.cell (World.block_lt_of_cell? w _ hw28_6)).trans hw28_6), ((HB.out.cell (World.block_lt_of_cell? w _ hw28_7)).trans hw28_7), ((HB.out.cell (World.block_lt_of_cell? w _ hw29_0)).trans hw29_0), ((HB.out.cell (World.block_lt_of_cell? w _ hw29_1)).trans hw29_1), ((HB.out.cell (World.block_lt_of_cell? w _ hw29_2)).trans hw29_2), ((HB.out.cell (World.block_lt_of_cell? w _ hw29_3)).trans hw29_3), ((HB.out.cell (World.block_lt_of_cell? w _ hw29_4)).trans hw29_4), ((HB.out.cell (World.block_lt_of_cell? w _ hw29_5)).trans hw29_5), ((HB.out.cell (World.block_lt_of_cell? w _ hw29_6)).trans hw29_6), ((HB.out.cell (World.block_lt_of_cell? w _ hw29_7)).trans hw29_7)⟩ (fun hHeld => ?_)
       clear hK K
       refine norm_ (a' := ?_) ?_ ?_
       rotate_left
       ·show Act.put _ (some 25) _ = _
        simp only [Act.put, List.setIfInBounds_toArray, List.set_cons_zero, List.set_cons_succ, i64_w, i32_w]
        rfl
       refine pr_ 9 26 (bz 10 1023) HT_ ?_
       refine done_ (done_of HT_.out (by kernel_rfl)) ?_
       try go_wp2
       go_ret
       exact ⟨rr_, ab2_⟩
      rw [if_neg c6] at H
      exact absurd H (by simp)
     rw [if_neg c5] at H
     exact absurd H (by simp)
    rw [if_neg c4] at H
    have c4b0 : decide (x5_1 < (l0.length : Int)) = false := decide_eq_false c4
    clear c4
    obtain rfl := Option.some.inj H
    go_wp2
    go_ret
    exact ⟨rr_, ab2_⟩
 rw [if_neg c3] at H
 have c3b0 : ((l0.length : Int) == (l1.length : Int)) = false := beq_eq_false_iff_ne.mpr c3
 have c3b1 : ((l0.length : Int) != (l1.length : Int)) = true := bne_iff_ne.mpr c3
 have c3b2 : (l0.length == l1.length) = false := by first | simpa using c3 | (simp at c3 ⊢; omega)
 obtain rfl := Option.some.inj H
 go_enter Tryz.func57, Tryz.ntmps57
 go_wp2
 go_ret
 exact ⟨rr_, ab2_⟩
theorem laws_eqStmt.calls_all (k : Nat) : laws_eqStmt.CallsAt k ∧ laws_eqStmtS.CallsAt k := by
 induction k using Nat.strongRecOn with
 | _ k ih => exact ⟨laws_eqStmt.step k (ih_laws_eqStmt := fun m hm => (ih m hm).1) (ih_laws_eqStmtS := fun m hm => (ih m hm).2), laws_eqStmtS.step k (ih_laws_eqStmt := fun m hm => (ih m hm).1) (ih_laws_eqStmtS := fun m hm => (ih m hm).2)⟩
theorem laws_eqStmt.calls (k : Nat) : laws_eqStmt.CallsAt k := (laws_eqStmt.calls_all k).1
theorem laws_eqStmtS.calls (k : Nat) : laws_eqStmtS.CallsAt k := (laws_eqStmt.calls_all k).2
theorem laws_eqStmtSS.mono_l : ∀ k, (∀ y0 y1 y2, LeO (laws_eqStmtSS.l0 k y0 y1 y2) (laws_eqStmtSS.l0 (k + 1) y0 y1 y2))
 | 0 => fun _ _ _ r h => by simp [laws_eqStmtSS.l0] at h
 | k + 1 => by
  have ih0 := laws_eqStmtSS.mono_l k
  ·intro y0 y1 y2
   unfold laws_eqStmtSS.l0
   have m0 := @laws_eqStmtS.mono
   exact mo_
theorem laws_eqStmtSS.mono : ∀ a0 a1 k, LeO (laws_eqStmtSS.f k a0 a1) (laws_eqStmtSS.f (k + 1) a0 a1) := by
 intro a0 a1 k
 have ih0 := laws_eqStmtSS.mono_l k
 unfold laws_eqStmtSS.f
 have m0 := @laws_eqStmtS.mono
 exact mo_
def laws_eqStmtSS.T6 : Bool × List (List Nat × List Nat) := (true, [([], []), ([], []), ([0, 1], [0, 1]), ([2], [2]), ([], []), ([], []), ([4, 5], [4, 5]), ([6], [6]), ([3, 7], [3, 7]), ([8], [8])])
def laws_eqStmtSS.B6 : List Nat := [0, 0, 3, 7, 0, 0, 48, 112, 255, 511]
theorem laws_eqStmtSS.tab6 : rtab .any (opsOf Tryz.f33 6) = laws_eqStmtSS.T6 := by kernel_rfl
theorem laws_eqStmtSS.bits6 : waitsOk laws_eqStmtSS.T6.2 laws_eqStmtSS.B6 = true := by kernel_rfl
theorem laws_eqStmtSS.calls (k : Nat) (A0 : Option Addr) (c0 : Nat) (l0 : List (List (S58))) (A1 : Option Addr) (c1 : Nat) (l1 : List (List (S58))) (r : Bool) (w : World) (hr0 : Kd.C (Kd.slice 58 k58) w A0 l0.length l0) (hc0 : l0.length ≤ c0) (hr1 : Kd.C (Kd.slice 58 k58) w A1 l1.length l1) (hc1 : l1.length ≤ c1) (h : laws_eqStmtSS.f k l0 l1 = some r) :
  Calls Tryz.prog 33 #[.slice A0 l0.length c0, .slice A1 l1.length c1] w fun e w' => e = .returned (.bool r) ∧ Below w.heap.size w w' := by
 have HR0 := am hr0
 have HC0 := am hc0
 clear hr0 hc0
 have HR1 := am hr1
 have HC1 := am hc1
 clear hr1 hc1
 have HB := am (Below.refl w.heap.size w)
 have H : (if (l0.length : Int) = (l1.length : Int) then (laws_eqStmtSS.l0 k l0 l1 0) else (some false)) = some r := h
 clear h
 by_cases c3 : (l0.length : Int) = (l1.length : Int)
 ·rw [if_pos c3] at H
  have c3b0 : ((l0.length : Int) == (l1.length : Int)) = true := beq_iff_eq.mpr c3
  have c3b1 : ((l0.length : Int) != (l1.length : Int)) = false := bne_eq_false_iff_eq.mpr c3
  have c3b2 : (l0.length == l1.length) = true := by first | simpa using c3 | (simp at c3 ⊢; omega)
  clear c3
  have H' := am H
  clear H
  go_enter Tryz.func33, Tryz.ntmps33
  go_wp2
  go_loopg [5] k (fun kq v5 w' => ∃ (x5_1 : Int), v5 = .int .i64 x5_1 ∧ Aside0 (laws_eqStmtSS.l0 kq l0 l1 x5_1 = some r) ∧ Aside0 (kq ≤ k) ∧ Aside0 (Below w.heap.size w w'))
  case atStart => exact ⟨(0), sd_, H', ⟨Nat.le_refl _⟩, ⟨ab2_⟩⟩
  case round =>
   clear H'
   try clear c1
   try clear c3
   try clear c3b0
   try clear c3b1
   try clear c3b2
   obtain ⟨x5_1, rfl, HA, HK1, HB⟩ := hrel
   cases gk with
   | zero => exact absurd HA.out (by simp [laws_eqStmtSS.l0])
   | succ k1 =>
    have H := HA.out
    clear HA
    simp only [laws_eqStmtSS.l0] at H
    by_cases c4 : x5_1 < (l0.length : Int)
    ·rw [if_pos c4] at H
     have c4b0 : decide (x5_1 < (l0.length : Int)) = true := decide_eq_true c4
     clear c4
     by_cases c5 : 0 ≤ x5_1
     ·rw [if_pos c5] at H
      have c5b0 : decide (0 ≤ x5_1) = true := decide_eq_true c5
      clear c5
      by_cases c6 : x5_1 < (l1.length : Int)
      ·rw [if_pos c6] at H
       have c6b0 : decide (x5_1 < (l1.length : Int)) = true := decide_eq_true c6
       clear c6
       obtain ⟨t27, A7, H⟩ := bsa H
       (try dsimp only at H)
       by_cases c8 : t27 = true
       ·subst c8
        rw [if_pos rfl] at H
        have H' := am H
        clear H
        try go_wp2
        replace HB := am (below_drew1 HB.out)
        have p28 : 0 ≤ (x5_1 : Int) := of_decide_eq_true asm_
        have q28 : x5_1 < (l0.length : Int) := of_decide_eq_true asm_
        obtain ⟨ad28, A28_0, c28_0, e28, hx28_0, hl28_0, hi28_0⟩ := at_L4 HR0.out x5_1 p28 q28
        have hw28_0 := hx28_0
        cases e28
        replace hx28_0 := (HB.out.cell (World.block_lt_of_cell? w _ hx28_0)).trans hx28_0
        have HR28_0 := am hi28_0
        have HC28_0 := am hl28_0
        clear hi28_0 hl28_0
        replace p28 := eq_true p28
        replace q28 := eq_true q28
        have p29 : 0 ≤ (x5_1 : Int) := of_decide_eq_true asm_
        have q29 : x5_1 < (l1.length : Int) := of_decide_eq_true asm_
        obtain ⟨ad29, A29_0, c29_0, e29, hx29_0, hl29_0, hi29_0⟩ := at_L4 HR1.out x5_1 p29 q29
        have hw29_0 := hx29_0
        cases e29
        replace hx29_0 := (HB.out.cell (World.block_lt_of_cell? w _ hx29_0)).trans hx29_0
        have HR29_0 := am hi29_0
        have HC29_0 := am hl29_0
        clear hi29_0 hl29_0
        replace p29 := eq_true p29
        replace q29 := eq_true q29
        refine start_ (n := 10) (S := fun w' => w'.cell? (ad28.add (x5_1).toNat) = some (.slice A28_0 (rd_L4 l0 x5_1).length c28_0) ∧ w'.cell? (ad29.add (x5_1).toNat) = some (.slice A29_0 (rd_L4 l1 x5_1).length c29_0)) (ds := []) (bz 10 0) (by kernel_rfl) rfl rfl ⟨((HB.out.cell (World.block_lt_of_cell? w _ hw28_0)).trans hw28_0), ((HB.out.cell (World.block_lt_of_cell? w _ hw29_0)).trans hw29_0)⟩ (fun hHeld => ?_); refine with_tabW laws_eqStmtSS.tab6 laws_eqStmtSS.bits6 (fun HT_ HW_ => ?_)
        generalize wr.drew = w9 at HB HR28_0 HR29_0 hx28_0 hx29_0 hHeld ⊢
        refine pr_ 0 17 (bz 10 1) HT_ ?_
        refine pr_ 1 18 (bz 10 3) HT_ ?_
        refine pr_ 2 19 (bz 10 7) HT_ ?_
        refine pr_ 4 21 (bz 10 23) HT_ ?_
        refine pr_ 5 22 (bz 10 55) HT_ ?_
        refine pr_ 6 23 (bz 10 119) HT_ ?_
        refine tk2_ 3 20 (bz 10 127) HT_ HW_ hHeld ?_
        refine tk2_ 7 24 (bz 10 255) HT_ HW_ hHeld ?_
        refine one_ (i := 8) (N := some 25) (bz 10 511) rfl rfl (one_of HT_.out (by kernel_rfl)) (by decide) (fun K hK => ?_)
        refine goes_ Tryz.func57 (by kernel_rfl) rfl #[.slice A28_0 (rd_L4 l0 x5_1).length c28_0, .slice A29_0 (rd_L4 l1 x5_1).length c29_0] (by rfl) rfl rfl ab1_ ?_
        with_reducible refine (laws_eqStmtS.calls k1 _ _ (rd_L4 l0 x5_1) _ _ (rd_L4 l1 x5_1) true _ (aC_ (Kd.C_below HR28_0.out HB.out)) HC28_0.out (aC_ (Kd.C_below HR29_0.out HB.out)) HC29_0.out A7.out).mono ?_
        rintro e w10 ⟨rfl, hb⟩
        refine ⟨_, rfl, ?_⟩
        replace HB := am (below_step ab2_ hb)
        (try clear hb)
        (try clear hb2)
        (try clear hk)
        (try clear hi)
        refine hK.out _ _ ⟨((HB.out.cell (World.block_lt_of_cell? w _ hw28_0)).trans hw28_0), ((HB.out.cell (World.block_lt_of_cell? w _ hw29_0)).trans hw29_0)⟩ (fun hHeld => ?_)
        clear hK K
        refine norm_ (a' := ?_) ?_ ?_
        rotate_left
        ·show Act.put _ (some 25) _ = _
         simp only [Act.put, List.setIfInBounds_toArray, List.set_cons_zero, List.set_cons_succ, i64_w, i32_w]
         rfl
        refine pr_ 9 26 (bz 10 1023) HT_ ?_
        refine done_ (done_of HT_.out (by kernel_rfl)) ?_
        try go_wp2
        go_roundg k1
        case measure => have := HK1.out; omega
        case rel => exact ⟨(wrap64 (x5_1 + 1)), sd_, H', ⟨by have := HK1.out; omega⟩, ⟨ab2_⟩⟩
       replace c8 := Bool.eq_false_iff.mpr c8
       subst c8
       rw [if_neg (show ¬ (false = true) by decide)] at H
       obtain rfl := Option.some.inj H
       try go_wp2
       replace HB := am (below_drew1 HB.out)
       have p28 : 0 ≤ (x5_1 : Int) := of_decide_eq_true asm_
       have q28 : x5_1 < (l0.length : Int) := of_decide_eq_true asm_
       obtain ⟨ad28, A28_0, c28_0, e28, hx28_0, hl28_0, hi28_0⟩ := at_L4 HR0.out x5_1 p28 q28
       have hw28_0 := hx28_0
       cases e28
       replace hx28_0 := (HB.out.cell (World.block_lt_of_cell? w _ hx28_0)).trans hx28_0
       have HR28_0 := am hi28_0
       have HC28_0 := am hl28_0
       clear hi28_0 hl28_0
       replace p28 := eq_true p28
       replace q28 := eq_true q28
       have p29 : 0 ≤ (x5_1 : Int) := of_decide_eq_true asm_
       have q29 : x5_1 < (l1.length : Int) := of_decide_eq_true asm_
       obtain ⟨ad29, A29_0, c29_0, e29, hx29_0, hl29_0, hi29_0⟩ := at_L4 HR1.out x5_1 p29 q29
       have hw29_0 := hx29_0
       cases e29
       replace hx29_0 := (HB.out.cell (World.block_lt_of_cell? w _ hx29_0)).trans hx29_0
       have HR29_0 := am hi29_0
       have HC29_0 := am hl29_0
       clear hi29_0 hl29_0
       replace p29 := eq_true p29
       replace q29 := eq_true q29
       refine start_ (n := 10) (S := fun w' => w'.cell? (ad28.add (x5_1).toNat) = some (.slice A28_0 (rd_L4 l0 x5_1).length c28_0) ∧ w'.cell? (ad29.add (x5_1).toNat) = some (.slice A29_0 (rd_L4 l1 x5_1).length c29_0)) (ds := []) (bz 10 0) (by kernel_rfl) rfl rfl ⟨((HB.out.cell (World.block_lt_of_cell? w _ hw28_0)).trans hw28_0), ((HB.out.cell (World.block_lt_of_cell? w _ hw29_0)).trans hw29_0)⟩ (fun hHeld => ?_); refine with_tabW laws_eqStmtSS.tab6 laws_eqStmtSS.bits6 (fun HT_ HW_ => ?_)
       generalize wr.drew = w11 at HB HR28_0 HR29_0 hx28_0 hx29_0 hHeld ⊢
       refine pr_ 0 17 (bz 10 1) HT_ ?_
       refine pr_ 1 18 (bz 10 3) HT_ ?_
       refine pr_ 2 19 (bz 10 7) HT_ ?_
       refine pr_ 4 21 (bz 10 23) HT_ ?_
       refine pr_ 5 22 (bz 10 55) HT_ ?_
       refine pr_ 6 23 (bz 10 119) HT_ ?_
       refine tk2_ 3 20 (bz 10 127) HT_ HW_ hHeld ?_
       refine tk2_ 7 24 (bz 10 255) HT_ HW_ hHeld ?_
       refine one_ (i := 8) (N := some 25) (bz 10 511) rfl rfl (one_of HT_.out (by kernel_rfl)) (by decide) (fun K hK => ?_)
       refine goes_ Tryz.func57 (by kernel_rfl) rfl #[.slice A28_0 (rd_L4 l0 x5_1).length c28_0, .slice A29_0 (rd_L4 l1 x5_1).length c29_0] (by rfl) rfl rfl ab1_ ?_
       with_reducible refine (laws_eqStmtS.calls k1 _ _ (rd_L4 l0 x5_1) _ _ (rd_L4 l1 x5_1) false _ (aC_ (Kd.C_below HR28_0.out HB.out)) HC28_0.out (aC_ (Kd.C_below HR29_0.out HB.out)) HC29_0.out A7.out).mono ?_
       rintro e w12 ⟨rfl, hb⟩
       refine ⟨_, rfl, ?_⟩
       replace HB := am (below_step ab2_ hb)
       (try clear hb)
       (try clear hb2)
       (try clear hk)
       (try clear hi)
       refine hK.out _ _ ⟨((HB.out.cell (World.block_lt_of_cell? w _ hw28_0)).trans hw28_0), ((HB.out.cell (World.block_lt_of_cell? w _ hw29_0)).trans hw29_0)⟩ (fun hHeld => ?_)
       clear hK K
       refine norm_ (a' := ?_) ?_ ?_
       rotate_left
       ·show Act.put _ (some 25) _ = _
        simp only [Act.put, List.setIfInBounds_toArray, List.set_cons_zero, List.set_cons_succ, i64_w, i32_w]
        rfl
       refine pr_ 9 26 (bz 10 1023) HT_ ?_
       refine done_ (done_of HT_.out (by kernel_rfl)) ?_
       try go_wp2
       go_ret
       exact ⟨rr_, ab2_⟩
      rw [if_neg c6] at H
      exact absurd H (by simp)
     rw [if_neg c5] at H
     exact absurd H (by simp)
    rw [if_neg c4] at H
    have c4b0 : decide (x5_1 < (l0.length : Int)) = false := decide_eq_false c4
    clear c4
    obtain rfl := Option.some.inj H
    go_wp2
    go_ret
    exact ⟨rr_, ab2_⟩
 rw [if_neg c3] at H
 have c3b0 : ((l0.length : Int) == (l1.length : Int)) = false := beq_eq_false_iff_ne.mpr c3
 have c3b1 : ((l0.length : Int) != (l1.length : Int)) = true := bne_iff_ne.mpr c3
 have c3b2 : (l0.length == l1.length) = false := by first | simpa using c3 | (simp at c3 ⊢; omega)
 obtain rfl := Option.some.inj H
 go_enter Tryz.func33, Tryz.ntmps33
 go_wp2
 go_ret
 exact ⟨rr_, ab2_⟩
theorem laws_eqProgram.mono : ∀ a0 a1 a2 a3 k, LeO (laws_eqProgram.f k a0 a1 a2 a3) (laws_eqProgram.f (k + 1) a0 a1 a2 a3) := by
 intro a0 a1 a2 a3 k
 unfold laws_eqProgram.f
 have m0 := @laws_eqIntS.mono
 have m1 := @laws_eqStmtSS.mono
 exact mo_
theorem laws_eqProgram.calls (k : Nat) (A0_0 : Option Addr) (c0_0 : Nat) (l0_0 : List Int) (A0_1 : Option Addr) (c0_1 : Nat) (l0_1 : List (List (S58))) (A1_0 : Option Addr) (c1_0 : Nat) (l1_0 : List Int) (A1_1 : Option Addr) (c1_1 : Nat) (l1_1 : List (List (S58))) (r : Bool) (w : World) (hr0_0 : Kd.C (Kd.int .i64) w A0_0 l0_0.length l0_0) (hc0_0 : l0_0.length ≤ c0_0) (hr0_1 : Kd.C (Kd.slice 58 k58) w A0_1 l0_1.length l0_1) (hc0_1 : l0_1.length ≤ c0_1) (hr1_0 : Kd.C (Kd.int .i64) w A1_0 l1_0.length l1_0) (hc1_0 : l1_0.length ≤ c1_0) (hr1_1 : Kd.C (Kd.slice 58 k58) w A1_1 l1_1.length l1_1) (hc1_1 : l1_1.length ≤ c1_1) (h : laws_eqProgram.f k l0_0 l0_1 l1_0 l1_1 = some r) :
  Calls Tryz.prog 15 #[.agg #[.slice A0_0 l0_0.length c0_0, .slice A0_1 l0_1.length c0_1], .agg #[.slice A1_0 l1_0.length c1_0, .slice A1_1 l1_1.length c1_1]] w fun e w' => e = .returned (.bool r) ∧ Below w.heap.size w w' := by
 have hu26 := Tryz.underlying26
 have HR0_0 := am hr0_0
 have HC0_0 := am hc0_0
 clear hr0_0 hc0_0
 have HR0_1 := am hr0_1
 have HC0_1 := am hc0_1
 clear hr0_1 hc0_1
 have HR1_0 := am hr1_0
 have HC1_0 := am hc1_0
 clear hr1_0 hc1_0
 have HR1_1 := am hr1_1
 have HC1_1 := am hc1_1
 clear hr1_1 hc1_1
 have HB := am (Below.refl w.heap.size w)
 have H : ((laws_eqIntS.f k l0_0 l1_0).bind fun t20 => (if t20 = true then ((laws_eqStmtSS.f k l0_1 l1_1).bind fun t21 => (if t21 = true then (some true) else (some false))) else (some false))) = some r := h
 clear h
 obtain ⟨t20, A3, H⟩ := bsa H
 (try dsimp only at H)
 have HH_ := am H
 clear H
 go_enter Tryz.func15, Tryz.ntmps15
 go_upto_region 1 with (first | ((with_reducible refine gate_dst (N := 2) rfl ?_); refine box_event rfl (N := 2) rfl (cs := #[.slice A0_0 l0_0.length c0_0, .slice A0_1 l0_1.length c0_1]) (t := 26) rn_ ?_; intro gb22 hg w7 hbox hb; have BK22 := am (hbox); have GW22 := am ((by rw [hg]; exact (below_size ab2_) : w.heap.size ≤ gb22)); have GE22 := am ((by rw [hg]; exact (below_size ab2_) : w.heap.size ≤ gb22)); replace HB := am (below_step ab2_ hb); clear hb hbox hg) | ((with_reducible refine gate_dst (N := 3) rfl ?_); refine box_event rfl (N := 3) rfl (cs := #[.slice A1_0 l1_0.length c1_0, .slice A1_1 l1_1.length c1_1]) (t := 26) rn_ ?_; intro gb23 hg w8 hbox hb; have BK23 := am (hbox); have GW23 := am ((by rw [hg]; exact (below_size ab30_) : w.heap.size ≤ gb23)); have GE23 := am ((by rw [hg]; exact (below_size ab30_) : w.heap.size ≤ gb23)); replace HB := am (below_step ab30_ hb); have NB22_23 := am ((by rw [hg]; exact Nat.ne_of_lt (blt_ BK22.out) : gb22 ≠ gb23)); have NB23_22 := am ((by rw [hg]; exact Nat.ne_of_gt (blt_ BK22.out) : gb23 ≠ gb22)); replace BK22 := am (bbl_ BK22.out hb); clear hb hbox hg; have hnb9 := NB22_23.out; have hnc9 := NB23_22.out; obtain ⟨hcz10_0, hcz10_1, hfz10_0, hfz10_1⟩ := bcf2_ BK22.out; obtain ⟨hcz11_0, hcz11_1, hfz11_0, hfz11_1⟩ := bcf2_ BK23.out))
 have H := HH_.out
 clear HH_
 by_cases c4 : t20 = true
 ·subst c4
  rw [if_pos rfl] at H
  obtain ⟨t21, A5, H⟩ := bsa H
  (try dsimp only at H)
  by_cases c6 : t21 = true
  ·subst c6
   rw [if_pos rfl] at H
   obtain rfl := Option.some.inj H
   go_wp2_with (first | ((with_reducible refine gate_callee (f := 32) rfl ?_); refine gl_ 9 Tryz.func32 #[.slice A0_0 l0_0.length c0_0, .slice A1_0 l1_0.length c1_0] ?_; (with_reducible refine (laws_eqIntS.calls k _ _ l0_0 _ _ l1_0 true _ (aC_ (Kd.C_below HR0_0.out HB.out)) HC0_0.out (aC_ (Kd.C_below HR1_0.out HB.out)) HC1_0.out A3.out).mono ?_); rintro e w' ⟨rfl, ⟨nd, rfl⟩⟩; refine ⟨_, rfl, ?_⟩) | ((with_reducible refine gate_callee (f := 33) rfl ?_); refine gl_ 15 Tryz.func33 #[.slice A0_1 l0_1.length c0_1, .slice A1_1 l1_1.length c1_1] ?_; (with_reducible refine (laws_eqStmtSS.calls k _ _ l0_1 _ _ l1_1 true _ (aC_ (Kd.C_below HR0_1.out ab61_)) HC0_1.out (aC_ (Kd.C_below HR1_1.out ab61_)) HC1_1.out A5.out).mono ?_); rintro e w12 ⟨rfl, hb⟩; refine ⟨_, rfl, ?_⟩; replace BK22 := am (bbl_ BK22.out hb); replace BK23 := am (bbl_ BK23.out hb); replace HB := am (below_step ab61_ hb); (try clear hb)))
   go_ret
   exact ⟨rr_, ab61_⟩
  replace c6 := Bool.eq_false_iff.mpr c6
  subst c6
  rw [if_neg (show ¬ (false = true) by decide)] at H
  obtain rfl := Option.some.inj H
  go_wp2_with (first | ((with_reducible refine gate_callee (f := 32) rfl ?_); refine gl_ 9 Tryz.func32 #[.slice A0_0 l0_0.length c0_0, .slice A1_0 l1_0.length c1_0] ?_; (with_reducible refine (laws_eqIntS.calls k _ _ l0_0 _ _ l1_0 true _ (aC_ (Kd.C_below HR0_0.out HB.out)) HC0_0.out (aC_ (Kd.C_below HR1_0.out HB.out)) HC1_0.out A3.out).mono ?_); rintro e w' ⟨rfl, ⟨nd, rfl⟩⟩; refine ⟨_, rfl, ?_⟩) | ((with_reducible refine gate_callee (f := 33) rfl ?_); refine gl_ 15 Tryz.func33 #[.slice A0_1 l0_1.length c0_1, .slice A1_1 l1_1.length c1_1] ?_; (with_reducible refine (laws_eqStmtSS.calls k _ _ l0_1 _ _ l1_1 false _ (aC_ (Kd.C_below HR0_1.out ab61_)) HC0_1.out (aC_ (Kd.C_below HR1_1.out ab61_)) HC1_1.out A5.out).mono ?_); rintro e w18 ⟨rfl, hb⟩; refine ⟨_, rfl, ?_⟩; replace BK22 := am (bbl_ BK22.out hb); replace BK23 := am (bbl_ BK23.out hb); replace HB := am (below_step ab61_ hb); (try clear hb)))
  go_ret
  exact ⟨rr_, ab61_⟩
 replace c4 := Bool.eq_false_iff.mpr c4
 subst c4
 rw [if_neg (show ¬ (false = true) by decide)] at H
 obtain rfl := Option.some.inj H
 go_wp2_with (first | ((with_reducible refine gate_callee (f := 32) rfl ?_); refine gl_ 9 Tryz.func32 #[.slice A0_0 l0_0.length c0_0, .slice A1_0 l1_0.length c1_0] ?_; (with_reducible refine (laws_eqIntS.calls k _ _ l0_0 _ _ l1_0 false _ (aC_ (Kd.C_below HR0_0.out HB.out)) HC0_0.out (aC_ (Kd.C_below HR1_0.out HB.out)) HC1_0.out A3.out).mono ?_); rintro e w' ⟨rfl, ⟨nd, rfl⟩⟩; refine ⟨_, rfl, ?_⟩))
 go_ret
 exact ⟨rr_, ab61_⟩
theorem laws_FnExactProgramText.mono : ∀ a0 a1 k, LeO (laws_FnExactProgramText.f k a0 a1) (laws_FnExactProgramText.f (k + 1) a0 a1) := by
 intro a0 a1 k
 unfold laws_FnExactProgramText.f
 have m0 := @impl_ProgramText.mono
 have m1 := @laws_eqProgram.mono
 have m2 := @laws_szProgram.mono
 have m3 := @laws_toProgram.mono
 have m4 := @spec_ProgramText.mono
 exact mo_
theorem laws_FnExactProgramText.calls (k : Nat) (A0_0 : Option Addr) (c0_0 : Nat) (l0_0 : List Int) (A0_1 : Option Addr) (c0_1 : Nat) (l0_1 : List (List (S113))) (r : Bool) (w : World) (hr0_0 : Kd.C (Kd.int .i64) w A0_0 l0_0.length l0_0) (hc0_0 : l0_0.length ≤ c0_0) (hr0_1 : Kd.C (Kd.slice 113 k113) w A0_1 l0_1.length l0_1) (hc0_1 : l0_1.length ≤ c0_1) (ht_ : Tab w) (h : laws_FnExactProgramText.f k l0_0 l0_1 = some r) :
  Calls Tryz.prog 4 #[.agg #[.slice A0_0 l0_0.length c0_0, .slice A0_1 l0_1.length c0_1]] w fun e w' => e = .returned (.bool r) ∧ Below w.heap.size w w' := by
 have hu38 := Tryz.underlying38
 have hu26 := Tryz.underlying26
 have HR0_0 := am hr0_0
 have HC0_0 := am hc0_0
 clear hr0_0 hc0_0
 have HR0_1 := am hr0_1
 have HC0_1 := am hc0_1
 clear hr0_1 hc0_1
 have HB := am (Below.refl w.heap.size w)
 have H : ((laws_szProgram.f k l0_0 l0_1 1048576).bind fun t36 => (if t36 < 0 then (some true) else ((laws_toProgram.f k l0_0 l0_1).bind fun bt37 => ((spec_ProgramText.f k bt37.1 bt37.2).bind fun t57 => ((laws_toProgram.f k l0_0 l0_1).bind fun bt58 => ((impl_ProgramText.f k bt58.1 bt58.2).bind fun t59 => (if t59.toList = t57.toList then ((laws_toProgram.f k l0_0 l0_1).bind fun bt73 => ((laws_eqProgram.f k bt58.1 bt58.2 bt73.1 bt73.2).bind fun t74 => (if t74 = true then (some true) else (some false)))) else (some false)))))))) = some r := h
 clear h
 obtain ⟨t36, A2, H⟩ := bsa H
 (try dsimp only at H)
 have HH_ := am H
 clear H
 go_enter Tryz.func4, Tryz.ntmps4
 go_upto_region 3 with (first | ((with_reducible refine gate_dst (N := 1) rfl ?_); refine box_event rfl (N := 1) rfl (cs := #[.slice A0_0 l0_0.length c0_0, .slice A0_1 l0_1.length c0_1]) (t := 38) rn_ ?_; intro gb75 hg w4 hbox hb; have BK75 := am (hbox); have GW75 := am ((by rw [hg]; exact (below_size ab2_) : w.heap.size ≤ gb75)); have GE75 := am ((by rw [hg]; exact (below_size ab2_) : w.heap.size ≤ gb75)); replace HB := am (below_step ab2_ hb); clear hb hbox hg; obtain ⟨hcz5_0, hcz5_1, hfz5_0, hfz5_1⟩ := bcf2_ BK75.out) | ((with_reducible refine gate_callee (f := 13) rfl ?_); refine gl_ 9 Tryz.func13 #[.agg #[.slice A0_0 l0_0.length c0_0, .slice A0_1 l0_1.length c0_1], .int .i64 1048576] ?_; (with_reducible refine (laws_szProgram.calls k _ _ l0_0 _ _ l0_1 1048576 t36 _ (aC_ (Kd.C_below HR0_0.out HB.out)) HC0_0.out (aC_ (Kd.C_below HR0_1.out HB.out)) HC0_1.out A2.out).mono ?_); rintro e w6 ⟨rfl, hb⟩; refine ⟨_, rfl, ?_⟩; replace BK75 := am (bbl_ BK75.out hb); replace HB := am (below_step ab24_ hb); (try clear hb)))
 have H := HH_.out
 clear HH_
 by_cases c3 : t36 < 0
 ·rw [if_pos c3] at H
  have c3b0 : decide (t36 < 0) = true := decide_eq_true c3
  clear c3
  obtain rfl := Option.some.inj H
  go_wp2
  go_ret
  exact ⟨rr_, ab24_⟩
 rw [if_neg c3] at H
 have c3b0 : decide (t36 < 0) = false := decide_eq_false c3
 clear c3
 obtain ⟨⟨t37, t76⟩, A7, H⟩ := bsa H
 (try dsimp only at H)
 obtain ⟨t57, A8, H⟩ := bsa H
 (try dsimp only at H)
 obtain ⟨⟨t58, t77⟩, A9, H⟩ := bsa H
 (try dsimp only at H)
 obtain ⟨t59, A78, H⟩ := bsm H
 (try dsimp only at H)
 have A10 := am A78
 clear A78
 by_cases c11 : t59.toList = t57.toList
 ·rw [if_pos c11] at H
  have c11b0 : (t59.toList == t57.toList) = true := beq_iff_eq.mpr c11
  have c11b1 : (t59.toList != t57.toList) = false := bne_eq_false_iff_eq.mpr c11
  clear c11
  obtain ⟨⟨t73, t79⟩, A81, H⟩ := bsm H
  (try dsimp only at H)
  have A12 := am A81
  clear A81
  obtain ⟨t74, A82, H⟩ := bsm H
  (try dsimp only at H)
  have A13 := am A82
  clear A82
  by_cases c14 : t74 = true
  ·subst c14
   rw [if_pos rfl] at H
   obtain rfl := Option.some.inj H
   obtain ⟨hcz18_0, hcz18_1, hfz18_0, hfz18_1⟩ := bcf2_ BK75.out
   try go_wp2_with (first | ((with_reducible refine gate_callee (f := 14) rfl ?_); refine gl_ 13 Tryz.func14 #[.agg #[.slice A0_0 l0_0.length c0_0, .slice A0_1 l0_1.length c0_1]] ?_; (with_reducible refine (laws_toProgram.calls k _ _ l0_0 _ _ l0_1 t37 t76 _ (aC_ (Kd.C_below HR0_0.out HB.out)) HC0_0.out (aC_ (Kd.C_below HR0_1.out HB.out)) HC0_1.out A7.out).mono ?_); rintro e w19 ⟨v83, v84, rfl, ho0, ho1, hb⟩; refine ⟨_, rfl, ?_⟩; have HO85 := am (Kd.R_lower (Kd.R_mono (ok' := fun k_ => True) ho0 (fun _ hk_ => trivial)) (below_size ab24_)); have HO86 := am (Kd.N_lower (Kd.N_mono (ok' := fun k_ => some k_ ≠ (v83 : Value).ownBlock ∧ k_ ≠ gb75) ho1 (fun k_ hk_ => ⟨hk_.2, (frb_ BK75.out k_ hk_.1)⟩)) (below_size ab24_)); replace BK75 := am (bbl_ BK75.out hb); replace HB := am (below_step ab24_ hb); (try clear hb); (try clear ho0); (try clear ho1); obtain ⟨Ao20, co20, eo20⟩ := Kd.R_slice HO85.out; subst eo20; obtain ⟨Ao21, co21, eo21⟩ := Kd.N_slice HO86.out; subst eo21) | ((with_reducible refine gate_callee (f := 9) rfl ?_); refine gl_ 14 Tryz.func9 #[.agg #[.slice Ao20 t37.length co20, .slice Ao21 t76.length co21]] ?_; (with_reducible refine (spec_ProgramText.calls k _ _ t37 _ _ t76 t57 _ (aC_ (Kd.R_reads' HO85.out).2.2) (Kd.R_reads' HO85.out).2.1 (aC_ (Kd.N_reads' HO86.out).2.2) (Kd.N_reads' HO86.out).2.1 A8.out).mono ?_); rintro e w22 ⟨rfl, hb⟩; refine ⟨_, rfl, ?_⟩; replace HO85 := am (Kd.R_below (aR_ HO85.out) hb); replace HO86 := am (Kd.N_below (aN_ HO86.out) hb); replace BK75 := am (bbl_ BK75.out hb); replace HB := am (below_step ab24_ hb); (try clear hb); obtain ⟨hcz23_0, hcz23_1, hfz23_0, hfz23_1⟩ := bcf2_ BK75.out) | ((with_reducible refine gate_callee (f := 14) rfl ?_); refine gl_ 16 Tryz.func14 #[.agg #[.slice A0_0 l0_0.length c0_0, .slice A0_1 l0_1.length c0_1]] ?_; (with_reducible refine (laws_toProgram.calls k _ _ l0_0 _ _ l0_1 t58 t77 _ (aC_ (Kd.C_below HR0_0.out HB.out)) HC0_0.out (aC_ (Kd.C_below HR0_1.out HB.out)) HC0_1.out A9.out).mono ?_); rintro e w24 ⟨v87, v88, rfl, ho0, ho1, hb⟩; refine ⟨_, rfl, ?_⟩; have HO89 := am (Kd.R_lower (Kd.R_new' (Kd.R_mono (ok' := fun k_ => True) ho0 (fun _ hk_ => trivial)) (Kd.R_lt (aR_ HO85.out))) (below_size ab24_)); have HO91 := am (Kd.N_lower (Kd.N_mono (ok' := fun k_ => some k_ ≠ (v87 : Value).ownBlock ∧ some k_ ≠ (.slice Ao20 t37.length co20 : Value).ownBlock ∧ some k_ ≠ (.slice Ao21 t76.length co21 : Value).ownBlock ∧ k_ ≠ gb75) ho1 (fun k_ hk_ => ⟨hk_.2, (Kd.fresh' (Kd.R_lt (aR_ HO85.out)) k_ hk_.1), (Kd.fresh' (Kd.N_lt (aN_ HO86.out)) k_ hk_.1), (frb_ BK75.out k_ hk_.1)⟩)) (below_size ab24_)); replace HO85 := am (Kd.R_elder' (aR_ HO85.out) (Kd.R_base ho0) hb); replace HO86 := am (Kd.N_mono (Kd.N_told (Kd.N_told (Kd.N_old (aN_ HO86.out) hb) (Kd.R_base ho0)) (Kd.N_base ho1)) (fun _ h_ => h_.1)); replace BK75 := am (bbl_ BK75.out hb); replace HB := am (below_step ab24_ hb); (try clear hb); (try clear ho0); (try clear ho1)) | ((with_reducible refine gate_dst (N := 5) rfl ?_); refine box_event rfl (N := 5) rfl (cs := #[.slice none 0 0, .slice none 0 0]) (t := 26) rn_ ?_; intro gb92 hg w25 hbox hb; replace HO85 := am (Kd.R_below (aR_ HO85.out) hb); replace HO86 := am (Kd.N_below (Kd.N_elderB (aN_ HO86.out) gb92 (Nat.le_of_eq hg.symm)) hb); replace HO89 := am (Kd.R_below (aR_ HO89.out) hb); replace HO91 := am (Kd.N_below (Kd.N_elderB (aN_ HO91.out) gb92 (Nat.le_of_eq hg.symm)) hb); have BK92 := am (hbox); have GW92 := am ((by rw [hg]; exact (below_size ab24_) : w.heap.size ≤ gb92)); have GE92 := am ((by rw [hg]; exact (below_size ab24_) : w.heap.size ≤ gb92)); replace HB := am (below_step ab24_ hb); have NB75_92 := am ((by rw [hg]; exact Nat.ne_of_lt (blt_ BK75.out) : gb75 ≠ gb92)); have NB92_75 := am ((by rw [hg]; exact Nat.ne_of_gt (blt_ BK75.out) : gb92 ≠ gb75)); replace BK75 := am (bbl_ BK75.out hb); clear hb hbox hg; obtain ⟨Ao26, co26, eo26⟩ := Kd.R_slice HO89.out; subst eo26; have hnb27 := NB92_75.out; have hnc27 := NB75_92.out; obtain ⟨hcz28_0, hcz28_1, hfz28_0, hfz28_1⟩ := bcf2_ BK92.out; obtain ⟨Ao29, co29, eo29⟩ := Kd.N_slice HO91.out; subst eo29) | ((with_reducible refine gate_callee (f := 8) rfl ?_); refine gl_ 18 Tryz.func8 #[.agg #[.slice Ao26 t58.length co26, .slice Ao29 t77.length co29]] ?_; (with_reducible refine (impl_ProgramText.calls k _ _ t58 _ _ t77 t59 _ ?side1 (Kd.R_reads' HO89.out).2.1 ?side3 (Kd.N_reads' HO91.out).2.1 ?sideT A10.out).mono ?_); (case sideT => first | exact ht_ | exact Tab.below ht_ HB.out | exact Tab.below ht_ ab39_); (case side1 => refine (Kd.R_reads' (e := 3) (base := w.heap.size) (ok := fun k_ => (True ∧ some k_ ≠ (.slice Ao20 t37.length co20 : Value).ownBlock)) (n := t58.length) (c := co26) ?_).2.2; exact (aRw_ ((Kd.R_mono (Kd.R_far (p := ⟨gb92, 1, none⟩) (Kd.R_far (p := ⟨gb92, 0, none⟩) (Kd.R_types HO89.out BK92.out (by decide)) (fun _ hk => hk.2) (.slice Ao26 t58.length co26)) (fun _ hk => hk.2) (.slice Ao29 t77.length co29)) (fun _ h_ => h_.1))))); (case side3 => refine (Kd.N_reads' (e := 33) (base := w.heap.size) (ok := fun k_ => ((some k_ ≠ (.slice Ao26 t58.length co26 : Value).ownBlock ∧ (some k_ ≠ (.slice Ao20 t37.length co20 : Value).ownBlock ∧ (some k_ ≠ (.slice Ao21 t76.length co21 : Value).ownBlock ∧ k_ ≠ gb75))) ∧ k_ ≠ gb92)) (n := t77.length) (c := co29) ?_).2.2; exact (aNw_ ((Kd.N_mono (Kd.N_far (p := ⟨gb92, 1, none⟩) (Kd.N_far (p := ⟨gb92, 0, none⟩) (Kd.N_mono HO91.out (fun k_ hk => (⟨hk, hk.2⟩ : _ ∧ k_ ≠ gb92))) (fun _ hk => hk.2) (.slice Ao26 t58.length co26)) (fun _ hk => hk.2) (.slice Ao29 t77.length co29)) (fun _ h_ => h_.1))))); rintro e w30 ⟨rfl, hb⟩; refine ⟨_, rfl, ?_⟩; replace HO85 := am (Kd.R_below (aRw_ ((Kd.R_mono (Kd.R_far (p := ⟨gb92, 1, none⟩) (Kd.R_far (p := ⟨gb92, 0, none⟩) (Kd.R_types HO85.out BK92.out (by decide)) (fun _ hk => hk.2) (.slice Ao26 t58.length co26)) (fun _ hk => hk.2) (.slice Ao29 t77.length co29)) (fun _ h_ => h_.1)))) hb); replace HO86 := am (Kd.N_below (aNw_ ((Kd.N_mono (Kd.N_far (p := ⟨gb92, 1, none⟩) (Kd.N_far (p := ⟨gb92, 0, none⟩) (Kd.N_mono HO86.out (fun k_ hk => (⟨hk, hk.2⟩ : _ ∧ k_ ≠ gb92))) (fun _ hk => hk.2) (.slice Ao26 t58.length co26)) (fun _ hk => hk.2) (.slice Ao29 t77.length co29)) (fun _ h_ => h_.1)))) hb); replace HO89 := am (Kd.R_below (aRw_ ((Kd.R_mono (Kd.R_far (p := ⟨gb92, 1, none⟩) (Kd.R_far (p := ⟨gb92, 0, none⟩) (Kd.R_types HO89.out BK92.out (by decide)) (fun _ hk => hk.2) (.slice Ao26 t58.length co26)) (fun _ hk => hk.2) (.slice Ao29 t77.length co29)) (fun _ h_ => h_.1)))) hb); replace HO91 := am (Kd.N_below (aNw_ ((Kd.N_mono (Kd.N_far (p := ⟨gb92, 1, none⟩) (Kd.N_far (p := ⟨gb92, 0, none⟩) (Kd.N_mono HO91.out (fun k_ hk => (⟨hk, hk.2⟩ : _ ∧ k_ ≠ gb92))) (fun _ hk => hk.2) (.slice Ao26 t58.length co26)) (fun _ hk => hk.2) (.slice Ao29 t77.length co29)) (fun _ h_ => h_.1)))) hb); replace BK75 := am (blk_below (g := gb75) (o := .cells #[.slice A0_0 l0_0.length c0_0, .slice A0_1 l0_1.length c0_1] 38 (0, 0)) (blk_far (blk_far BK75.out NB75_92.out _) NB75_92.out _) hb); replace BK92 := am (blk_below (g := gb92) (o := .cells #[.slice Ao26 t58.length co26, .slice Ao29 t77.length co29] 26 (0, 0)) (blk_put (blk_put BK92.out 0 _ rfl) 1 _ rfl) hb); replace HB := am (below_step ab39_ hb); (try clear hb)))
   replace HO85 := am (Kd.R_drew HO85.out)
   replace HO86 := am (Kd.N_drew HO86.out)
   replace HO89 := am (Kd.R_drew HO89.out)
   replace HO91 := am (Kd.N_drew HO91.out)
   replace BK75 := am (blk_drew BK75.out)
   replace BK92 := am (blk_drew BK92.out)
   replace HB := am (below_drew1 HB.out)
   refine start_ (n := 5) (S := fun w' => w'.cell? ⟨gb92, 0, none⟩ = some (.slice Ao26 t58.length co26) ∧ w'.cell? ⟨gb92, 1, none⟩ = some (.slice Ao29 t77.length co29) ∧ w'.cell? ⟨gb75, 0, none⟩ = some (.slice A0_0 l0_0.length c0_0) ∧ w'.cell? ⟨gb75, 1, none⟩ = some (.slice A0_1 l0_1.length c0_1)) (ds := []) (bz 5 0) (by kernel_rfl) rfl rfl ⟨(blk_cell BK92.out 0).trans rfl, (blk_cell BK92.out 1).trans rfl, (blk_cell BK75.out 0).trans rfl, (blk_cell BK75.out 1).trans rfl⟩ (fun hHeld => ?_)
   generalize w30.drew = w31 at HO85 HO86 HO89 HO91 BK75 BK92 HB hHeld ⊢
   refine take_ (i := 0) (N := some 22) (v := ?_) (a' := ?_) (bz 5 1) rfl rfl (by kernel_rfl) (fun _ _ _ h => h) (Or.inl ⟨by rfl, ?_⟩) hHeld ?_ ?_
   rotate_left
   ·rintro w' ⟨s0, s1, s2, s3⟩
    go_simp
    with_reducible rfl
   rotate_left
   ·simp only [Act.put, List.setIfInBounds_toArray, List.set_cons_zero, List.set_cons_succ, i64_w, i32_w]
    rfl
   refine take_ (i := 1) (N := some 23) (v := ?_) (a' := ?_) (bz 5 3) rfl rfl (by kernel_rfl) (fun _ _ _ h => h) (Or.inl ⟨by rfl, ?_⟩) hHeld ?_ ?_
   rotate_left
   ·rintro w' ⟨s0, s1, s2, s3⟩
    go_simp
    with_reducible rfl
   rotate_left
   ·simp only [Act.put, List.setIfInBounds_toArray, List.set_cons_zero, List.set_cons_succ, i64_w, i32_w]
    rfl
   refine one_ (i := 2) (N := some 24) (bz 5 7) rfl rfl (by kernel_rfl) (by decide) (fun K hK => ?_)
   refine goes_ Tryz.func14 (by kernel_rfl) rfl #[.agg #[.slice A0_0 l0_0.length c0_0, .slice A0_1 l0_1.length c0_1]] (by rfl) rfl rfl ab1_ ?_
   with_reducible refine (laws_toProgram.calls k _ _ l0_0 _ _ l0_1 t73 t79 _ (aC_ (Kd.C_below HR0_0.out HB.out)) HC0_0.out (aC_ (Kd.C_below HR0_1.out HB.out)) HC0_1.out A12.out).mono ?_
   rintro e w32 ⟨v93, v94, rfl, ho0, ho1, hb⟩
   refine ⟨_, rfl, ?_⟩
   have HO95 := am (Kd.R_lower (Kd.R_new' (Kd.R_new' (Kd.R_mono (ok' := fun k_ => True) ho0 (fun _ hk_ => trivial)) (Kd.R_lt (aR_ HO85.out))) (Kd.R_lt (aR_ HO89.out))) (below_size ab39_))
   have HO96 := am (Kd.N_lower (Kd.N_mono (ok' := fun k_ => some k_ ≠ (v93 : Value).ownBlock ∧ some k_ ≠ (.slice Ao20 t37.length co20 : Value).ownBlock ∧ some k_ ≠ (.slice Ao21 t76.length co21 : Value).ownBlock ∧ some k_ ≠ (.slice Ao26 t58.length co26 : Value).ownBlock ∧ some k_ ≠ (.slice Ao29 t77.length co29 : Value).ownBlock ∧ k_ ≠ gb75 ∧ k_ ≠ gb92) ho1 (fun k_ hk_ => ⟨hk_.2, (Kd.fresh' (Kd.R_lt (aR_ HO85.out)) k_ hk_.1), (Kd.fresh' (Kd.N_lt (aN_ HO86.out)) k_ hk_.1), (Kd.fresh' (Kd.R_lt (aR_ HO89.out)) k_ hk_.1), (Kd.fresh' (Kd.N_lt (aN_ HO91.out)) k_ hk_.1), (frb_ BK75.out k_ hk_.1), (frb_ BK92.out k_ hk_.1)⟩)) (below_size ab39_))
   replace HO85 := am (Kd.R_elder' (aR_ HO85.out) (Kd.R_base ho0) hb)
   replace HO86 := am (Kd.N_mono (Kd.N_told (Kd.N_told (Kd.N_old (aN_ HO86.out) hb) (Kd.R_base ho0)) (Kd.N_base ho1)) (fun _ h_ => h_.1))
   replace HO89 := am (Kd.R_elder' (aR_ HO89.out) (Kd.R_base ho0) hb)
   replace HO91 := am (Kd.N_mono (Kd.N_told (Kd.N_told (Kd.N_old (aN_ HO91.out) hb) (Kd.R_base ho0)) (Kd.N_base ho1)) (fun _ h_ => h_.1))
   replace BK75 := am (bbl_ BK75.out hb)
   replace BK92 := am (bbl_ BK92.out hb)
   replace HB := am (below_step ab39_ hb)
   (try clear hb)
   (try clear hb2)
   (try clear hk)
   (try clear hi)
   (try clear ho0)
   (try clear ho1)
   obtain ⟨Ao33, co33, eo33⟩ := Kd.R_slice HO95.out
   (first | subst eo33 | (injection eo33 with f1_ f2_ f3_; have f4_ := f1_.symm; have f5_ := f3_.symm; clear f1_ f2_ f3_; subst f4_; subst f5_))
   obtain ⟨Ao34, co34, eo34⟩ := Kd.N_slice HO96.out
   (first | subst eo34 | (injection eo34 with f1_ f2_ f3_; have f4_ := f1_.symm; have f5_ := f3_.symm; clear f1_ f2_ f3_; subst f4_; subst f5_))
   refine hK.out _ _ ⟨(blk_cell BK92.out 0).trans rfl, (blk_cell BK92.out 1).trans rfl, (blk_cell BK75.out 0).trans rfl, (blk_cell BK75.out 1).trans rfl⟩ (fun hHeld => ?_)
   clear hK K
   refine norm_ (a' := ?_) ?_ ?_
   rotate_left
   ·show Act.put _ (some 24) _ = _
    simp only [Act.put, List.setIfInBounds_toArray, List.set_cons_zero, List.set_cons_succ, i64_w, i32_w]
    rfl
   refine one_ (i := 3) (N := some 25) (bz 5 15) rfl rfl (by kernel_rfl) (by decide) (fun K hK => ?_)
   refine goes_ Tryz.func15 (by kernel_rfl) rfl #[.agg #[.slice Ao26 t58.length co26, .slice Ao29 t77.length co29], .agg #[.slice Ao33 t73.length co33, .slice Ao34 t79.length co34]] (by rfl) rfl rfl ab1_ ?_
   with_reducible refine (laws_eqProgram.calls k _ _ t58 _ _ t77 _ _ t73 _ _ t79 true _ (aC_ (Kd.R_reads' HO89.out).2.2) (Kd.R_reads' HO89.out).2.1 (aC_ (Kd.N_reads' HO91.out).2.2) (Kd.N_reads' HO91.out).2.1 (aC_ (Kd.R_reads' HO95.out).2.2) (Kd.R_reads' HO95.out).2.1 (aC_ (Kd.N_reads' HO96.out).2.2) (Kd.N_reads' HO96.out).2.1 A13.out).mono ?_
   rintro e w35 ⟨rfl, hb⟩
   refine ⟨_, rfl, ?_⟩
   replace HO85 := am (Kd.R_below (aR_ HO85.out) hb)
   replace HO86 := am (Kd.N_below (aN_ HO86.out) hb)
   replace HO89 := am (Kd.R_below (aR_ HO89.out) hb)
   replace HO91 := am (Kd.N_below (aN_ HO91.out) hb)
   replace HO95 := am (Kd.R_below (aR_ HO95.out) hb)
   replace HO96 := am (Kd.N_below (aN_ HO96.out) hb)
   replace BK75 := am (bbl_ BK75.out hb)
   replace BK92 := am (bbl_ BK92.out hb)
   replace HB := am (below_step ab39_ hb)
   (try clear hb)
   (try clear hb2)
   (try clear hk)
   (try clear hi)
   refine hK.out _ _ ⟨(blk_cell BK92.out 0).trans rfl, (blk_cell BK92.out 1).trans rfl, (blk_cell BK75.out 0).trans rfl, (blk_cell BK75.out 1).trans rfl⟩ (fun hHeld => ?_)
   clear hK K
   refine norm_ (a' := ?_) ?_ ?_
   rotate_left
   ·show Act.put _ (some 25) _ = _
    simp only [Act.put, List.setIfInBounds_toArray, List.set_cons_zero, List.set_cons_succ, i64_w, i32_w]
    rfl
   refine pure_ (i := 4) (N := some 26) (v := ?_) (a' := ?_) (bz 5 31) rfl rfl (by kernel_rfl) (fun _ _ _ h => h) (Or.inl ⟨by rfl, ?_⟩) ?_ ?_
   rotate_left
   ·intro w'
    go_simp
    with_reducible rfl
   rotate_left
   ·simp only [Act.put, List.setIfInBounds_toArray, List.set_cons_zero, List.set_cons_succ, i64_w, i32_w]
    rfl
   refine done_ (by kernel_rfl) ?_
   try go_wp2
   go_ret
   exact ⟨rr_, ab39_⟩
  replace c14 := Bool.eq_false_iff.mpr c14
  subst c14
  rw [if_neg (show ¬ (false = true) by decide)] at H
  obtain rfl := Option.some.inj H
  obtain ⟨hcz39_0, hcz39_1, hfz39_0, hfz39_1⟩ := bcf2_ BK75.out
  try go_wp2_with (first | ((with_reducible refine gate_callee (f := 14) rfl ?_); refine gl_ 13 Tryz.func14 #[.agg #[.slice A0_0 l0_0.length c0_0, .slice A0_1 l0_1.length c0_1]] ?_; (with_reducible refine (laws_toProgram.calls k _ _ l0_0 _ _ l0_1 t37 t76 _ (aC_ (Kd.C_below HR0_0.out HB.out)) HC0_0.out (aC_ (Kd.C_below HR0_1.out HB.out)) HC0_1.out A7.out).mono ?_); rintro e w40 ⟨v83, v84, rfl, ho0, ho1, hb⟩; refine ⟨_, rfl, ?_⟩; have HO85 := am (Kd.R_lower (Kd.R_mono (ok' := fun k_ => True) ho0 (fun _ hk_ => trivial)) (below_size ab24_)); have HO86 := am (Kd.N_lower (Kd.N_mono (ok' := fun k_ => some k_ ≠ (v83 : Value).ownBlock ∧ k_ ≠ gb75) ho1 (fun k_ hk_ => ⟨hk_.2, (frb_ BK75.out k_ hk_.1)⟩)) (below_size ab24_)); replace BK75 := am (bbl_ BK75.out hb); replace HB := am (below_step ab24_ hb); (try clear hb); (try clear ho0); (try clear ho1); obtain ⟨Ao41, co41, eo41⟩ := Kd.R_slice HO85.out; subst eo41; obtain ⟨Ao42, co42, eo42⟩ := Kd.N_slice HO86.out; subst eo42) | ((with_reducible refine gate_callee (f := 9) rfl ?_); refine gl_ 14 Tryz.func9 #[.agg #[.slice Ao41 t37.length co41, .slice Ao42 t76.length co42]] ?_; (with_reducible refine (spec_ProgramText.calls k _ _ t37 _ _ t76 t57 _ (aC_ (Kd.R_reads' HO85.out).2.2) (Kd.R_reads' HO85.out).2.1 (aC_ (Kd.N_reads' HO86.out).2.2) (Kd.N_reads' HO86.out).2.1 A8.out).mono ?_); rintro e w43 ⟨rfl, hb⟩; refine ⟨_, rfl, ?_⟩; replace HO85 := am (Kd.R_below (aR_ HO85.out) hb); replace HO86 := am (Kd.N_below (aN_ HO86.out) hb); replace BK75 := am (bbl_ BK75.out hb); replace HB := am (below_step ab24_ hb); (try clear hb); obtain ⟨hcz44_0, hcz44_1, hfz44_0, hfz44_1⟩ := bcf2_ BK75.out) | ((with_reducible refine gate_callee (f := 14) rfl ?_); refine gl_ 16 Tryz.func14 #[.agg #[.slice A0_0 l0_0.length c0_0, .slice A0_1 l0_1.length c0_1]] ?_; (with_reducible refine (laws_toProgram.calls k _ _ l0_0 _ _ l0_1 t58 t77 _ (aC_ (Kd.C_below HR0_0.out HB.out)) HC0_0.out (aC_ (Kd.C_below HR0_1.out HB.out)) HC0_1.out A9.out).mono ?_); rintro e w45 ⟨v87, v88, rfl, ho0, ho1, hb⟩; refine ⟨_, rfl, ?_⟩; have HO89 := am (Kd.R_lower (Kd.R_new' (Kd.R_mono (ok' := fun k_ => True) ho0 (fun _ hk_ => trivial)) (Kd.R_lt (aR_ HO85.out))) (below_size ab24_)); have HO91 := am (Kd.N_lower (Kd.N_mono (ok' := fun k_ => some k_ ≠ (v87 : Value).ownBlock ∧ some k_ ≠ (.slice Ao41 t37.length co41 : Value).ownBlock ∧ some k_ ≠ (.slice Ao42 t76.length co42 : Value).ownBlock ∧ k_ ≠ gb75) ho1 (fun k_ hk_ => ⟨hk_.2, (Kd.fresh' (Kd.R_lt (aR_ HO85.out)) k_ hk_.1), (Kd.fresh' (Kd.N_lt (aN_ HO86.out)) k_ hk_.1), (frb_ BK75.out k_ hk_.1)⟩)) (below_size ab24_)); replace HO85 := am (Kd.R_elder' (aR_ HO85.out) (Kd.R_base ho0) hb); replace HO86 := am (Kd.N_mono (Kd.N_told (Kd.N_told (Kd.N_old (aN_ HO86.out) hb) (Kd.R_base ho0)) (Kd.N_base ho1)) (fun _ h_ => h_.1)); replace BK75 := am (bbl_ BK75.out hb); replace HB := am (below_step ab24_ hb); (try clear hb); (try clear ho0); (try clear ho1)) | ((with_reducible refine gate_dst (N := 5) rfl ?_); refine box_event rfl (N := 5) rfl (cs := #[.slice none 0 0, .slice none 0 0]) (t := 26) rn_ ?_; intro gb92 hg w46 hbox hb; replace HO85 := am (Kd.R_below (aR_ HO85.out) hb); replace HO86 := am (Kd.N_below (Kd.N_elderB (aN_ HO86.out) gb92 (Nat.le_of_eq hg.symm)) hb); replace HO89 := am (Kd.R_below (aR_ HO89.out) hb); replace HO91 := am (Kd.N_below (Kd.N_elderB (aN_ HO91.out) gb92 (Nat.le_of_eq hg.symm)) hb); have BK92 := am (hbox); have GW92 := am ((by rw [hg]; exact (below_size ab24_) : w.heap.size ≤ gb92)); have GE92 := am ((by rw [hg]; exact (below_size ab24_) : w.heap.size ≤ gb92)); replace HB := am (below_step ab24_ hb); have NB75_92 := am ((by rw [hg]; exact Nat.ne_of_lt (blt_ BK75.out) : gb75 ≠ gb92)); have NB92_75 := am ((by rw [hg]; exact Nat.ne_of_gt (blt_ BK75.out) : gb92 ≠ gb75)); replace BK75 := am (bbl_ BK75.out hb); clear hb hbox hg; obtain ⟨Ao47, co47, eo47⟩ := Kd.R_slice HO89.out; subst eo47; have hnb48 := NB92_75.out; have hnc48 := NB75_92.out; obtain ⟨hcz49_0, hcz49_1, hfz49_0, hfz49_1⟩ := bcf2_ BK92.out; obtain ⟨Ao50, co50, eo50⟩ := Kd.N_slice HO91.out; subst eo50) | ((with_reducible refine gate_callee (f := 8) rfl ?_); refine gl_ 18 Tryz.func8 #[.agg #[.slice Ao47 t58.length co47, .slice Ao50 t77.length co50]] ?_; (with_reducible refine (impl_ProgramText.calls k _ _ t58 _ _ t77 t59 _ ?side1 (Kd.R_reads' HO89.out).2.1 ?side3 (Kd.N_reads' HO91.out).2.1 ?sideT A10.out).mono ?_); (case sideT => first | exact ht_ | exact Tab.below ht_ HB.out | exact Tab.below ht_ ab39_); (case side1 => refine (Kd.R_reads' (e := 3) (base := w.heap.size) (ok := fun k_ => (True ∧ some k_ ≠ (.slice Ao41 t37.length co41 : Value).ownBlock)) (n := t58.length) (c := co47) ?_).2.2; exact (aRw_ ((Kd.R_mono (Kd.R_far (p := ⟨gb92, 1, none⟩) (Kd.R_far (p := ⟨gb92, 0, none⟩) (Kd.R_types HO89.out BK92.out (by decide)) (fun _ hk => hk.2) (.slice Ao47 t58.length co47)) (fun _ hk => hk.2) (.slice Ao50 t77.length co50)) (fun _ h_ => h_.1))))); (case side3 => refine (Kd.N_reads' (e := 33) (base := w.heap.size) (ok := fun k_ => ((some k_ ≠ (.slice Ao47 t58.length co47 : Value).ownBlock ∧ (some k_ ≠ (.slice Ao41 t37.length co41 : Value).ownBlock ∧ (some k_ ≠ (.slice Ao42 t76.length co42 : Value).ownBlock ∧ k_ ≠ gb75))) ∧ k_ ≠ gb92)) (n := t77.length) (c := co50) ?_).2.2; exact (aNw_ ((Kd.N_mono (Kd.N_far (p := ⟨gb92, 1, none⟩) (Kd.N_far (p := ⟨gb92, 0, none⟩) (Kd.N_mono HO91.out (fun k_ hk => (⟨hk, hk.2⟩ : _ ∧ k_ ≠ gb92))) (fun _ hk => hk.2) (.slice Ao47 t58.length co47)) (fun _ hk => hk.2) (.slice Ao50 t77.length co50)) (fun _ h_ => h_.1))))); rintro e w51 ⟨rfl, hb⟩; refine ⟨_, rfl, ?_⟩; replace HO85 := am (Kd.R_below (aRw_ ((Kd.R_mono (Kd.R_far (p := ⟨gb92, 1, none⟩) (Kd.R_far (p := ⟨gb92, 0, none⟩) (Kd.R_types HO85.out BK92.out (by decide)) (fun _ hk => hk.2) (.slice Ao47 t58.length co47)) (fun _ hk => hk.2) (.slice Ao50 t77.length co50)) (fun _ h_ => h_.1)))) hb); replace HO86 := am (Kd.N_below (aNw_ ((Kd.N_mono (Kd.N_far (p := ⟨gb92, 1, none⟩) (Kd.N_far (p := ⟨gb92, 0, none⟩) (Kd.N_mono HO86.out (fun k_ hk => (⟨hk, hk.2⟩ : _ ∧ k_ ≠ gb92))) (fun _ hk => hk.2) (.slice Ao47 t58.length co47)) (fun _ hk => hk.2) (.slice Ao50 t77.length co50)) (fun _ h_ => h_.1)))) hb); replace HO89 := am (Kd.R_below (aRw_ ((Kd.R_mono (Kd.R_far (p := ⟨gb92, 1, none⟩) (Kd.R_far (p := ⟨gb92, 0, none⟩) (Kd.R_types HO89.out BK92.out (by decide)) (fun _ hk => hk.2) (.slice Ao47 t58.length co47)) (fun _ hk => hk.2) (.slice Ao50 t77.length co50)) (fun _ h_ => h_.1)))) hb); replace HO91 := am (Kd.N_below (aNw_ ((Kd.N_mono (Kd.N_far (p := ⟨gb92, 1, none⟩) (Kd.N_far (p := ⟨gb92, 0, none⟩) (Kd.N_mono HO91.out (fun k_ hk => (⟨hk, hk.2⟩ : _ ∧ k_ ≠ gb92))) (fun _ hk => hk.2) (.slice Ao47 t58.length co47)) (fun _ hk => hk.2) (.slice Ao50 t77.length co50)) (fun _ h_ => h_.1)))) hb); replace BK75 := am (blk_below (g := gb75) (o := .cells #[.slice A0_0 l0_0.length c0_0, .slice A0_1 l0_1.length c0_1] 38 (0, 0)) (blk_far (blk_far BK75.out NB75_92.out _) NB75_92.out _) hb); replace BK92 := am (blk_below (g := gb92) (o := .cells #[.slice Ao47 t58.length co47, .slice Ao50 t77.length co50] 26 (0, 0)) (blk_put (blk_put BK92.out 0 _ rfl) 1 _ rfl) hb); replace HB := am (below_step ab39_ hb); (try clear hb)))
  replace HO85 := am (Kd.R_drew HO85.out)
  replace HO86 := am (Kd.N_drew HO86.out)
  replace HO89 := am (Kd.R_drew HO89.out)
  replace HO91 := am (Kd.N_drew HO91.out)
  replace BK75 := am (blk_drew BK75.out)
  replace BK92 := am (blk_drew BK92.out)
  replace HB := am (below_drew1 HB.out)
  refine start_ (n := 5) (S := fun w' => w'.cell? ⟨gb92, 0, none⟩ = some (.slice Ao47 t58.length co47) ∧ w'.cell? ⟨gb92, 1, none⟩ = some (.slice Ao50 t77.length co50) ∧ w'.cell? ⟨gb75, 0, none⟩ = some (.slice A0_0 l0_0.length c0_0) ∧ w'.cell? ⟨gb75, 1, none⟩ = some (.slice A0_1 l0_1.length c0_1)) (ds := []) (bz 5 0) (by kernel_rfl) rfl rfl ⟨(blk_cell BK92.out 0).trans rfl, (blk_cell BK92.out 1).trans rfl, (blk_cell BK75.out 0).trans rfl, (blk_cell BK75.out 1).trans rfl⟩ (fun hHeld => ?_)
  generalize w51.drew = w52 at HO85 HO86 HO89 HO91 BK75 BK92 HB hHeld ⊢
  refine take_ (i := 0) (N := some 22) (v := ?_) (a' := ?_) (bz 5 1) rfl rfl (by kernel_rfl) (fun _ _ _ h => h) (Or.inl ⟨by rfl, ?_⟩) hHeld ?_ ?_
  rotate_left
  ·rintro w' ⟨s0, s1, s2, s3⟩
   go_simp
   with_reducible rfl
  rotate_left
  ·simp only [Act.put, List.setIfInBounds_toArray, List.set_cons_zero, List.set_cons_succ, i64_w, i32_w]
   rfl
  refine take_ (i := 1) (N := some 23) (v := ?_) (a' := ?_) (bz 5 3) rfl rfl (by kernel_rfl) (fun _ _ _ h => h) (Or.inl ⟨by rfl, ?_⟩) hHeld ?_ ?_
  rotate_left
  ·rintro w' ⟨s0, s1, s2, s3⟩
   go_simp
   with_reducible rfl
  rotate_left
  ·simp only [Act.put, List.setIfInBounds_toArray, List.set_cons_zero, List.set_cons_succ, i64_w, i32_w]
   rfl
  refine one_ (i := 2) (N := some 24) (bz 5 7) rfl rfl (by kernel_rfl) (by decide) (fun K hK => ?_)
  refine goes_ Tryz.func14 (by kernel_rfl) rfl #[.agg #[.slice A0_0 l0_0.length c0_0, .slice A0_1 l0_1.length c0_1]] (by rfl) rfl rfl ab1_ ?_
  with_reducible refine (laws_toProgram.calls k _ _ l0_0 _ _ l0_1 t73 t79 _ (aC_ (Kd.C_below HR0_0.out HB.out)) HC0_0.out (aC_ (Kd.C_below HR0_1.out HB.out)) HC0_1.out A12.out).mono ?_
  rintro e w53 ⟨v93, v94, rfl, ho0, ho1, hb⟩
  refine ⟨_, rfl, ?_⟩
  have HO95 := am (Kd.R_lower (Kd.R_new' (Kd.R_new' (Kd.R_mono (ok' := fun k_ => True) ho0 (fun _ hk_ => trivial)) (Kd.R_lt (aR_ HO85.out))) (Kd.R_lt (aR_ HO89.out))) (below_size ab39_))
  have HO96 := am (Kd.N_lower (Kd.N_mono (ok' := fun k_ => some k_ ≠ (v93 : Value).ownBlock ∧ some k_ ≠ (.slice Ao41 t37.length co41 : Value).ownBlock ∧ some k_ ≠ (.slice Ao42 t76.length co42 : Value).ownBlock ∧ some k_ ≠ (.slice Ao47 t58.length co47 : Value).ownBlock ∧ some k_ ≠ (.slice Ao50 t77.length co50 : Value).ownBlock ∧ k_ ≠ gb75 ∧ k_ ≠ gb92) ho1 (fun k_ hk_ => ⟨hk_.2, (Kd.fresh' (Kd.R_lt (aR_ HO85.out)) k_ hk_.1), (Kd.fresh' (Kd.N_lt (aN_ HO86.out)) k_ hk_.1), (Kd.fresh' (Kd.R_lt (aR_ HO89.out)) k_ hk_.1), (Kd.fresh' (Kd.N_lt (aN_ HO91.out)) k_ hk_.1), (frb_ BK75.out k_ hk_.1), (frb_ BK92.out k_ hk_.1)⟩)) (below_size ab39_))
  replace HO85 := am (Kd.R_elder' (aR_ HO85.out) (Kd.R_base ho0) hb)
  replace HO86 := am (Kd.N_mono (Kd.N_told (Kd.N_told (Kd.N_old (aN_ HO86.out) hb) (Kd.R_base ho0)) (Kd.N_base ho1)) (fun _ h_ => h_.1))
  replace HO89 := am (Kd.R_elder' (aR_ HO89.out) (Kd.R_base ho0) hb)
  replace HO91 := am (Kd.N_mono (Kd.N_told (Kd.N_told (Kd.N_old (aN_ HO91.out) hb) (Kd.R_base ho0)) (Kd.N_base ho1)) (fun _ h_ => h_.1))
  replace BK75 := am (bbl_ BK75.out hb)
  replace BK92 := am (bbl_ BK92.out hb)
  replace HB := am (below_step ab39_ hb)
  (try clear hb)
  (try clear hb2)
  (try clear hk)
  (try clear hi)
  (try clear ho0)
  (try clear ho1)
  obtain ⟨Ao54, co54, eo54⟩ := Kd.R_slice HO95.out
  (first | subst eo54 | (injection eo54 with f1_ f2_ f3_; have f4_ := f1_.symm; have f5_ := f3_.symm; clear f1_ f2_ f3_; subst f4_; subst f5_))
  obtain ⟨Ao55, co55, eo55⟩ := Kd.N_slice HO96.out
  (first | subst eo55 | (injection eo55 with f1_ f2_ f3_; have f4_ := f1_.symm; have f5_ := f3_.symm; clear f1_ f2_ f3_; subst f4_; subst f5_))
  refine hK.out _ _ ⟨(blk_cell BK92.out 0).trans rfl, (blk_cell BK92.out 1).trans rfl, (blk_cell BK75.out 0).trans rfl, (blk_cell BK75.out 1).trans rfl⟩ (fun hHeld => ?_)
  clear hK K
  refine norm_ (a' := ?_) ?_ ?_
  rotate_left
  ·show Act.put _ (some 24) _ = _
   simp only [Act.put, List.setIfInBounds_toArray, List.set_cons_zero, List.set_cons_succ, i64_w, i32_w]
   rfl
  refine one_ (i := 3) (N := some 25) (bz 5 15) rfl rfl (by kernel_rfl) (by decide) (fun K hK => ?_)
  refine goes_ Tryz.func15 (by kernel_rfl) rfl #[.agg #[.slice Ao47 t58.length co47, .slice Ao50 t77.length co50], .agg #[.slice Ao54 t73.length co54, .slice Ao55 t79.length co55]] (by rfl) rfl rfl ab1_ ?_
  with_reducible refine (laws_eqProgram.calls k _ _ t58 _ _ t77 _ _ t73 _ _ t79 false _ (aC_ (Kd.R_reads' HO89.out).2.2) (Kd.R_reads' HO89.out).2.1 (aC_ (Kd.N_reads' HO91.out).2.2) (Kd.N_reads' HO91.out).2.1 (aC_ (Kd.R_reads' HO95.out).2.2) (Kd.R_reads' HO95.out).2.1 (aC_ (Kd.N_reads' HO96.out).2.2) (Kd.N_reads' HO96.out).2.1 A13.out).mono ?_
  rintro e w56 ⟨rfl, hb⟩
  refine ⟨_, rfl, ?_⟩
  replace HO85 := am (Kd.R_below (aR_ HO85.out) hb)
  replace HO86 := am (Kd.N_below (aN_ HO86.out) hb)
  replace HO89 := am (Kd.R_below (aR_ HO89.out) hb)
  replace HO91 := am (Kd.N_below (aN_ HO91.out) hb)
  replace HO95 := am (Kd.R_below (aR_ HO95.out) hb)
  replace HO96 := am (Kd.N_below (aN_ HO96.out) hb)
  replace BK75 := am (bbl_ BK75.out hb)
  replace BK92 := am (bbl_ BK92.out hb)
  replace HB := am (below_step ab39_ hb)
  (try clear hb)
  (try clear hb2)
  (try clear hk)
  (try clear hi)
  refine hK.out _ _ ⟨(blk_cell BK92.out 0).trans rfl, (blk_cell BK92.out 1).trans rfl, (blk_cell BK75.out 0).trans rfl, (blk_cell BK75.out 1).trans rfl⟩ (fun hHeld => ?_)
  clear hK K
  refine norm_ (a' := ?_) ?_ ?_
  rotate_left
  ·show Act.put _ (some 25) _ = _
   simp only [Act.put, List.setIfInBounds_toArray, List.set_cons_zero, List.set_cons_succ, i64_w, i32_w]
   rfl
  refine pure_ (i := 4) (N := some 26) (v := ?_) (a' := ?_) (bz 5 31) rfl rfl (by kernel_rfl) (fun _ _ _ h => h) (Or.inl ⟨by rfl, ?_⟩) ?_ ?_
  rotate_left
  ·intro w'
   go_simp
   with_reducible rfl
  rotate_left
  ·simp only [Act.put, List.setIfInBounds_toArray, List.set_cons_zero, List.set_cons_succ, i64_w, i32_w]
   rfl
  refine done_ (by kernel_rfl) ?_
  try go_wp2
  go_ret
  exact ⟨rr_, ab39_⟩
 rw [if_neg c11] at H
 have c11b0 : (t59.toList == t57.toList) = false := beq_eq_false_iff_ne.mpr c11
 have c11b1 : (t59.toList != t57.toList) = true := bne_iff_ne.mpr c11
 obtain rfl := Option.some.inj H
 obtain ⟨hcz60_0, hcz60_1, hfz60_0, hfz60_1⟩ := bcf2_ BK75.out
 go_wp2_with (first | ((with_reducible refine gate_callee (f := 14) rfl ?_); refine gl_ 13 Tryz.func14 #[.agg #[.slice A0_0 l0_0.length c0_0, .slice A0_1 l0_1.length c0_1]] ?_; (with_reducible refine (laws_toProgram.calls k _ _ l0_0 _ _ l0_1 t37 t76 _ (aC_ (Kd.C_below HR0_0.out HB.out)) HC0_0.out (aC_ (Kd.C_below HR0_1.out HB.out)) HC0_1.out A7.out).mono ?_); rintro e w61 ⟨v83, v84, rfl, ho0, ho1, hb⟩; refine ⟨_, rfl, ?_⟩; have HO85 := am (Kd.R_lower (Kd.R_mono (ok' := fun k_ => True) ho0 (fun _ hk_ => trivial)) (below_size ab24_)); have HO86 := am (Kd.N_lower (Kd.N_mono (ok' := fun k_ => some k_ ≠ (v83 : Value).ownBlock ∧ k_ ≠ gb75) ho1 (fun k_ hk_ => ⟨hk_.2, (frb_ BK75.out k_ hk_.1)⟩)) (below_size ab24_)); replace BK75 := am (bbl_ BK75.out hb); replace HB := am (below_step ab24_ hb); (try clear hb); (try clear ho0); (try clear ho1); obtain ⟨Ao62, co62, eo62⟩ := Kd.R_slice HO85.out; subst eo62; obtain ⟨Ao63, co63, eo63⟩ := Kd.N_slice HO86.out; subst eo63) | ((with_reducible refine gate_callee (f := 9) rfl ?_); refine gl_ 14 Tryz.func9 #[.agg #[.slice Ao62 t37.length co62, .slice Ao63 t76.length co63]] ?_; (with_reducible refine (spec_ProgramText.calls k _ _ t37 _ _ t76 t57 _ (aC_ (Kd.R_reads' HO85.out).2.2) (Kd.R_reads' HO85.out).2.1 (aC_ (Kd.N_reads' HO86.out).2.2) (Kd.N_reads' HO86.out).2.1 A8.out).mono ?_); rintro e w64 ⟨rfl, hb⟩; refine ⟨_, rfl, ?_⟩; replace HO85 := am (Kd.R_below (aR_ HO85.out) hb); replace HO86 := am (Kd.N_below (aN_ HO86.out) hb); replace BK75 := am (bbl_ BK75.out hb); replace HB := am (below_step ab24_ hb); (try clear hb); obtain ⟨hcz65_0, hcz65_1, hfz65_0, hfz65_1⟩ := bcf2_ BK75.out) | ((with_reducible refine gate_callee (f := 14) rfl ?_); refine gl_ 16 Tryz.func14 #[.agg #[.slice A0_0 l0_0.length c0_0, .slice A0_1 l0_1.length c0_1]] ?_; (with_reducible refine (laws_toProgram.calls k _ _ l0_0 _ _ l0_1 t58 t77 _ (aC_ (Kd.C_below HR0_0.out HB.out)) HC0_0.out (aC_ (Kd.C_below HR0_1.out HB.out)) HC0_1.out A9.out).mono ?_); rintro e w66 ⟨v87, v88, rfl, ho0, ho1, hb⟩; refine ⟨_, rfl, ?_⟩; have HO89 := am (Kd.R_lower (Kd.R_new' (Kd.R_mono (ok' := fun k_ => True) ho0 (fun _ hk_ => trivial)) (Kd.R_lt (aR_ HO85.out))) (below_size ab24_)); have HO91 := am (Kd.N_lower (Kd.N_mono (ok' := fun k_ => some k_ ≠ (v87 : Value).ownBlock ∧ some k_ ≠ (.slice Ao62 t37.length co62 : Value).ownBlock ∧ some k_ ≠ (.slice Ao63 t76.length co63 : Value).ownBlock ∧ k_ ≠ gb75) ho1 (fun k_ hk_ => ⟨hk_.2, (Kd.fresh' (Kd.R_lt (aR_ HO85.out)) k_ hk_.1), (Kd.fresh' (Kd.N_lt (aN_ HO86.out)) k_ hk_.1), (frb_ BK75.out k_ hk_.1)⟩)) (below_size ab24_)); replace HO85 := am (Kd.R_elder' (aR_ HO85.out) (Kd.R_base ho0) hb); replace HO86 := am (Kd.N_mono (Kd.N_told (Kd.N_told (Kd.N_old (aN_ HO86.out) hb) (Kd.R_base ho0)) (Kd.N_base ho1)) (fun _ h_ => h_.1)); replace BK75 := am (bbl_ BK75.out hb); replace HB := am (below_step ab24_ hb); (try clear hb); (try clear ho0); (try clear ho1)) | ((with_reducible refine gate_dst (N := 5) rfl ?_); refine box_event rfl (N := 5) rfl (cs := #[.slice none 0 0, .slice none 0 0]) (t := 26) rn_ ?_; intro gb92 hg w67 hbox hb; replace HO85 := am (Kd.R_below (aR_ HO85.out) hb); replace HO86 := am (Kd.N_below (Kd.N_elderB (aN_ HO86.out) gb92 (Nat.le_of_eq hg.symm)) hb); replace HO89 := am (Kd.R_below (aR_ HO89.out) hb); replace HO91 := am (Kd.N_below (Kd.N_elderB (aN_ HO91.out) gb92 (Nat.le_of_eq hg.symm)) hb); have BK92 := am (hbox); have GW92 := am ((by rw [hg]; exact (below_size ab24_) : w.heap.size ≤ gb92)); have GE92 := am ((by rw [hg]; exact (below_size ab24_) : w.heap.size ≤ gb92)); replace HB := am (below_step ab24_ hb); have NB75_92 := am ((by rw [hg]; exact Nat.ne_of_lt (blt_ BK75.out) : gb75 ≠ gb92)); have NB92_75 := am ((by rw [hg]; exact Nat.ne_of_gt (blt_ BK75.out) : gb92 ≠ gb75)); replace BK75 := am (bbl_ BK75.out hb); clear hb hbox hg; obtain ⟨Ao68, co68, eo68⟩ := Kd.R_slice HO89.out; subst eo68; have hnb69 := NB92_75.out; have hnc69 := NB75_92.out; obtain ⟨hcz70_0, hcz70_1, hfz70_0, hfz70_1⟩ := bcf2_ BK92.out; obtain ⟨Ao71, co71, eo71⟩ := Kd.N_slice HO91.out; subst eo71) | ((with_reducible refine gate_callee (f := 8) rfl ?_); refine gl_ 18 Tryz.func8 #[.agg #[.slice Ao68 t58.length co68, .slice Ao71 t77.length co71]] ?_; (with_reducible refine (impl_ProgramText.calls k _ _ t58 _ _ t77 t59 _ ?side1 (Kd.R_reads' HO89.out).2.1 ?side3 (Kd.N_reads' HO91.out).2.1 ?sideT A10.out).mono ?_); (case sideT => first | exact ht_ | exact Tab.below ht_ HB.out | exact Tab.below ht_ ab39_); (case side1 => refine (Kd.R_reads' (e := 3) (base := w.heap.size) (ok := fun k_ => (True ∧ some k_ ≠ (.slice Ao62 t37.length co62 : Value).ownBlock)) (n := t58.length) (c := co68) ?_).2.2; exact (aRw_ ((Kd.R_mono (Kd.R_far (p := ⟨gb92, 1, none⟩) (Kd.R_far (p := ⟨gb92, 0, none⟩) (Kd.R_types HO89.out BK92.out (by decide)) (fun _ hk => hk.2) (.slice Ao68 t58.length co68)) (fun _ hk => hk.2) (.slice Ao71 t77.length co71)) (fun _ h_ => h_.1))))); (case side3 => refine (Kd.N_reads' (e := 33) (base := w.heap.size) (ok := fun k_ => ((some k_ ≠ (.slice Ao68 t58.length co68 : Value).ownBlock ∧ (some k_ ≠ (.slice Ao62 t37.length co62 : Value).ownBlock ∧ (some k_ ≠ (.slice Ao63 t76.length co63 : Value).ownBlock ∧ k_ ≠ gb75))) ∧ k_ ≠ gb92)) (n := t77.length) (c := co71) ?_).2.2; exact (aNw_ ((Kd.N_mono (Kd.N_far (p := ⟨gb92, 1, none⟩) (Kd.N_far (p := ⟨gb92, 0, none⟩) (Kd.N_mono HO91.out (fun k_ hk => (⟨hk, hk.2⟩ : _ ∧ k_ ≠ gb92))) (fun _ hk => hk.2) (.slice Ao68 t58.length co68)) (fun _ hk => hk.2) (.slice Ao71 t77.length co71)) (fun _ h_ => h_.1))))); rintro e w72 ⟨rfl, hb⟩; refine ⟨_, rfl, ?_⟩; replace HO85 := am (Kd.R_below (aRw_ ((Kd.R_mono (Kd.R_far (p := ⟨gb92, 1, none⟩) (Kd.R_far (p := ⟨gb92, 0, none⟩) (Kd.R_types HO85.out BK92.out (by decide)) (fun _ hk => hk.2) (.slice Ao68 t58.length co68)) (fun _ hk => hk.2) (.slice Ao71 t77.length co71)) (fun _ h_ => h_.1)))) hb); replace HO86 := am (Kd.N_below (aNw_ ((Kd.N_mono (Kd.N_far (p := ⟨gb92, 1, none⟩) (Kd.N_far (p := ⟨gb92, 0, none⟩) (Kd.N_mono HO86.out (fun k_ hk => (⟨hk, hk.2⟩ : _ ∧ k_ ≠ gb92))) (fun _ hk => hk.2) (.slice Ao68 t58.length co68)) (fun _ hk => hk.2) (.slice Ao71 t77.length co71)) (fun _ h_ => h_.1)))) hb); replace HO89 := am (Kd.R_below (aRw_ ((Kd.R_mono (Kd.R_far (p := ⟨gb92, 1, none⟩) (Kd.R_far (p := ⟨gb92, 0, none⟩) (Kd.R_types HO89.out BK92.out (by decide)) (fun _ hk => hk.2) (.slice Ao68 t58.length co68)) (fun _ hk => hk.2) (.slice Ao71 t77.length co71)) (fun _ h_ => h_.1)))) hb); replace HO91 := am (Kd.N_below (aNw_ ((Kd.N_mono (Kd.N_far (p := ⟨gb92, 1, none⟩) (Kd.N_far (p := ⟨gb92, 0, none⟩) (Kd.N_mono HO91.out (fun k_ hk => (⟨hk, hk.2⟩ : _ ∧ k_ ≠ gb92))) (fun _ hk => hk.2) (.slice Ao68 t58.length co68)) (fun _ hk => hk.2) (.slice Ao71 t77.length co71)) (fun _ h_ => h_.1)))) hb); replace BK75 := am (blk_below (g := gb75) (o := .cells #[.slice A0_0 l0_0.length c0_0, .slice A0_1 l0_1.length c0_1] 38 (0, 0)) (blk_far (blk_far BK75.out NB75_92.out _) NB75_92.out _) hb); replace BK92 := am (blk_below (g := gb92) (o := .cells #[.slice Ao68 t58.length co68, .slice Ao71 t77.length co71] 26 (0, 0)) (blk_put (blk_put BK92.out 0 _ rfl) 1 _ rfl) hb); replace HB := am (below_step ab39_ hb); (try clear hb)))
 go_ret
 exact ⟨rr_, ab39_⟩
end Go.Proofs.YtjamfkpgmkhbnaaGreatDoor.PA

namespace Go.Proofs.YtjamfkpgmkhbnaaGreatDoor.Core
open Go.RowKit Go.Proofs.YtjamfkpgmkhbnaaGreatDoorW.PrintWords Go.Proofs.YtjamfkpgmkhbnaaGreatDoorW.PrintMore
section
variable {α β : Type} {g h : Nat → Option α} {P Q : α → Prop}
def EvP (g : Nat → Option α) (P : α → Prop) : Prop := ∃ r, Ev g r ∧ P r
theorem EvP.ret {r : α} (h : P r) : EvP (fun _ => some r) P := ⟨r, Ev.now r, h⟩
theorem EvP.mono (h : EvP g P) (k : ∀ a, P a → Q a) : EvP g Q := by
 obtain ⟨r, h1, h2⟩ := h
 exact ⟨r, h1, k r h2⟩
theorem EvP.bind {f : Nat → α → Option β} {R : β → Prop} (h : EvP g P) (k : ∀ a, P a → EvP (fun n => f n a) R) : EvP (fun n => (g n).bind (f n)) R := by
 obtain ⟨a, h1, h2⟩ := h
 obtain ⟨r, k1, k2⟩ := k a h2
 exact ⟨r, Ev.bind h1 k1, k2⟩
theorem EvP.bind0 {o : Option α} {a : α} {f : Nat → α → Option β} {R : β → Prop} (h : o = some a) (k : EvP (fun n => f n a) R) : EvP (fun n => o.bind (f n)) R := by
 subst h
 exact k
theorem EvP.ite {c : Prop} [Decidable c] (h1 : c → EvP g P) (h2 : ¬ c → EvP h P) : EvP (fun n => if c then g n else h n) P := by
 by_cases hc : c
 ·simp only [if_pos hc]
  exact h1 hc
 ·simp only [if_neg hc]
  exact h2 hc
theorem EvP.yes {c : Prop} [Decidable c] (hc : c) (h1 : EvP g P) : EvP (fun n => if c then g n else h n) P := by
 simp only [if_pos hc]
 exact h1
theorem EvP.no {c : Prop} [Decidable c] (hc : ¬ c) (h1 : EvP h P) : EvP (fun n => if c then g n else h n) P := by
 simp only [if_neg hc]
 exact h1
theorem EvP.step {f : Nat → Option α} (h : ∀ k, g (k + 1) = f k) (k : EvP f P) : EvP g P := by
 obtain ⟨r, h1, h2⟩ := k
 exact ⟨r, Ev.step h h1, h2⟩
theorem EvP.ends {r : α} (h : EvP g (· = r)) : ∃ k, g k = some r := by
  obtain ⟨a, h1, h2⟩ := h
  subst h2
  exact h1.rounds
theorem Ev.evp {r : α} (h : Ev g r) : EvP g (· = r) := ⟨r, h, rfl⟩
theorem EvP.congr {f : Nat → Option α} (h : ∀ k, g k = f k) (k : EvP f P) : EvP g P := by
 obtain ⟨r, h1, h2⟩ := k
 exact ⟨r, Ev.congr h h1, h2⟩
theorem EvP.of {o : Option α} {r : α} (h : o = some r) (hp : P r) : EvP (fun _ => o) P := by
 subst h
 exact EvP.ret hp
theorem EvP.bindEq {f : Nat → α → Option β} {R : β → Prop} {a : α} (h : EvP g (· = a)) (k : EvP (fun n => f n a) R) : EvP (fun n => (g n).bind (f n)) R :=
  EvP.bind h (fun b hb => by subst hb; exact k)
end
theorem w64 {n : Int} (h1 : -9223372036854775808 ≤ n) (h2 : n ≤ 9223372036854775807) : wrap64 n = n := by
 unfold wrap64
 omega
theorem rd_nat (xs : List Int) (i : Nat) (h : i < xs.length) : rd xs (i : Int) = xs[i] := by
 unfold rd
 rw [Int.toNat_natCast, List.getD_eq_getElem?_getD, List.getElem?_eq_getElem h]
 rfl
theorem rd_mem (xs : List Int) (i : Int) (h0 : 0 ≤ i) (h : i < xs.length) : rd xs i ∈ xs := by
 unfold rd
 rw [List.getD_eq_getElem?_getD, List.getElem?_eq_getElem (by omega)]
 exact List.getElem_mem _
end Go.Proofs.YtjamfkpgmkhbnaaGreatDoor.Core

namespace Go.Proofs.YtjamfkpgmkhbnaaGreatDoor.PA
open Go.RowKit Go.Proofs.YtjamfkpgmkhbnaaGreatDoorW.PrintWords Go.Proofs.YtjamfkpgmkhbnaaGreatDoorW.PrintMore Go.Proofs.YtjamfkpgmkhbnaaGreatDoor.Core
def ap (op a b : Int) : Int :=
 if op = 1 then Go.bits .or .i64 a b else if op = 2 then Go.bits .xor .i64 a b else if op = 3 then Go.bits .and .i64 a b
 else if op = 4 then (if a = b then 1 else 0) else if op = 5 then (if a < b then 1 else 0)
 else if op = 6 then wrap32 (shl .i64 a (Go.bits .and .i64 b 31)) else if op = 7 then shr .i64 a (Go.bits .and .i64 b 31)
 else if op = 8 then wrap32 (a + b) else if op = 9 then wrap32 (a - b) else if op = 10 then wrap32 (a * b)
 else if op = 11 then (if b = 0 then -1 else wrap32 (Int.tdiv a b)) else if b = 0 then a else Int.tmod a b
end Go.Proofs.YtjamfkpgmkhbnaaGreatDoor.PA

namespace Go.Proofs.YtjamfkpgmkhbnaaGreatDoor.PA
open Go.RowKit Go.Proofs.YtjamfkpgmkhbnaaGreatDoorW.PrintWords Go.Proofs.YtjamfkpgmkhbnaaGreatDoor.Core
theorem l6In_eq (a b c : Int) : spec_l6In.f a b c = some (decide (b ≤ a) && decide (a ≤ c)) := by
 unfold spec_l6In.f
 by_cases h : a ≥ b
 ·rw [if_pos h, decide_eq_true h, Bool.true_and]
 ·rw [if_neg h, decide_eq_false h, Bool.false_and]
theorem eqIntS_l0 (l m : List Int) (hl : l.length ≤ 1000000000) (hm : l.length = m.length) : ∀ (d j : Nat), j + d = l.length → EvP (fun k => laws_eqIntS.l0 k l m (j : Int)) (· = decide (l.drop j = m.drop j)) := by
  intro d
  induction d with
  | zero =>
    intro j hj
    refine EvP.step (fun k => laws_eqIntS.l0.eq_2 (k := k) ..) (EvP.no (by omega) (EvP.ret ?_))
    rw [List.drop_eq_nil_of_le (by omega), List.drop_eq_nil_of_le (by omega)]
    rfl
  | succ d ih =>
    intro j hj
    have hlt : j < l.length := by omega
    have hlm : j < m.length := by omega
    refine EvP.step (fun k => laws_eqIntS.l0.eq_2 (k := k) ..) (EvP.yes (by omega) (EvP.yes (by omega) (EvP.yes (by omega) ?_)))
    rw [rd_nat l j hlt, rd_nat m j hlm, List.drop_eq_getElem_cons hlt, List.drop_eq_getElem_cons hlm]
    refine EvP.ite (fun h => ?_) (fun h => EvP.ret ?_)
    · rw [h, w64 (by omega) (by omega)]
      refine (ih (j + 1) (by omega)).mono fun a ha => ?_
      rw [ha]
      exact decide_eq_decide.mpr ⟨fun e => by rw [e], fun e => (List.cons.inj e).2⟩
    · exact (decide_eq_false (fun e => h (List.cons.inj e).1)).symm
theorem eqIntS_ev (l m : List Int) (hl : l.length ≤ 1000000000) : EvP (fun k => laws_eqIntS.f k l m) (· = decide (l = m)) := by
  unfold laws_eqIntS.f
  refine EvP.ite (fun h => ?_) (fun h => EvP.ret ?_)
  · exact eqIntS_l0 l m hl (by omega) l.length 0 (by omega)
  · rw [decide_eq_false]
    rintro rfl
    exact h rfl
theorem toIntS_l0 (l : List Int) (hl : l.length ≤ 1000000000) : ∀ (d j : Nat) (m : List Int), m.length = l.length → j + d = l.length → EvP (fun k => laws_toIntS.l0 k l m (j : Int)) (· = m.take j ++ l.drop j) := by
  intro d
  induction d with
  | zero =>
    intro j m hm hj
    refine EvP.step (fun k => laws_toIntS.l0.eq_2 (k := k) ..) (EvP.no (by omega) (EvP.ret ?_))
    rw [List.take_of_length_le (by omega), List.drop_eq_nil_of_le (by omega), List.append_nil]
  | succ d ih =>
    intro j m hm hj
    have hlt : j < l.length := by omega
    refine EvP.step (fun k => laws_toIntS.l0.eq_2 (k := k) ..) (EvP.yes (by omega) (EvP.yes (by omega) (EvP.yes (by omega) ?_)))
    rw [w64 (by omega) (by omega), Int.toNat_natCast, rd_nat l j hlt]
    refine (ih (j + 1) (m.set j l[j]) (by rw [List.length_set]; exact hm) (by omega)).mono fun a ha => ?_
    rw [ha, List.take_succ_eq_append_getElem (by rw [List.length_set]; omega), List.getElem_set_self, List.take_set_of_le (by omega), List.append_assoc, List.drop_eq_getElem_cons hlt]
    rfl
theorem toIntS_ev (l : List Int) (hl : l.length ≤ 1000000000) : EvP (fun k => laws_toIntS.f k l) (· = l) := by
  unfold laws_toIntS.f
  refine EvP.yes (by omega) (EvP.yes (by omega) ?_)
  exact toIntS_l0 l hl l.length 0 _ (by rw [List.length_replicate]; omega) (by omega)
theorem szIntS_eq (l : List Int) (n : Int) (h1 : 0 ≤ n) (h2 : n ≤ 9223372036854775807) (hl : l.length ≤ 9223372036854775807) : laws_szIntS.f l n = some (if n - l.length < 0 then -1 else n - l.length) := by
 unfold laws_szIntS.f
 rw [w64 (by omega) (by omega)]
 by_cases h : n - (l.length : Int) < 0
 ·rw [if_pos h, if_pos h]
 ·rw [if_neg h, if_neg h]
end Go.Proofs.YtjamfkpgmkhbnaaGreatDoor.PA

namespace Go.Proofs.YtjamfkpgmkhbnaaGreatDoor.PA
open Go.RowKit Go.Proofs.YtjamfkpgmkhbnaaGreatDoor.Core
inductive X where
 | num (n : Int)
 | var (v : Int)
 | bin (op : Int) (a b : X)
namespace X
def ok : X → Prop
 | num n => 0 ≤ n ∧ n ≤ 99999
 | var v => 0 ≤ v ∧ v < 4
 | bin op a b => (1 ≤ op ∧ op ≤ 12) ∧ a.ok ∧ b.ok
def depth : X → Nat
 | num _ => 1
 | var _ => 1
 | bin _ a b => max a.depth b.depth + 1
def size : X → Nat
 | num _ => 1
 | var _ => 1
 | bin _ a b => a.size + b.size + 1
def eval (g : Int → Int) : X → Int
 | num n => n
 | var v => g v
 | bin op a b => ap op (a.eval g) (b.eval g)
theorem size_depth : ∀ x : X, x.size + 1 ≤ 2 ^ x.depth
 | num _ | var _ => by simp [size, depth]
 | bin _ a b => by
  have ha := size_depth a
  have hb := size_depth b
  have h1 : 2 ^ a.depth ≤ 2 ^ max a.depth b.depth := Nat.pow_le_pow_right (by omega) (Nat.le_max_left _ _)
  have h2 : 2 ^ b.depth ≤ 2 ^ max a.depth b.depth := Nat.pow_le_pow_right (by omega) (Nat.le_max_right _ _)
  simp only [size, depth, Nat.pow_succ]
  omega
end X
end Go.Proofs.YtjamfkpgmkhbnaaGreatDoor.PA

namespace Go.Proofs.YtjamfkpgmkhbnaaGreatDoor.PA
open Go.RowKit Go.Proofs.YtjamfkpgmkhbnaaGreatDoorW.PrintWords Go.Proofs.YtjamfkpgmkhbnaaGreatDoorW.PrintMore Go.Proofs.YtjamfkpgmkhbnaaGreatDoor.Core
def emb : X → S56
 | .num n => ⟨0, n, []⟩
 | .var v => ⟨13, v, []⟩
 | .bin op a b => ⟨op, 0, [emb a, emb b]⟩
theorem rdE_nat (l : List S56) (i : Nat) (h : i < l.length) : rd_T56 l (i : Int) = l[i] := by
 unfold rd_T56
 rw [Int.toNat_natCast, List.getD_eq_getElem?_getD, List.getElem?_eq_getElem h]
 rfl
theorem rdE_0 (a b : S56) : rd_T56 [a, b] 0 = a := rfl
theorem rdE_1 (a b : S56) : rd_T56 [a, b] 1 = b := rfl
theorem etaE (a : S56) : (⟨a.f0, a.f1, a.f2⟩ : S56) = a := by
 cases a
 rfl
def vx : Nat → Int → Int → List S56 → Bool
 | 0, _, _, _ => false
 | d + 1, op, n, l =>
  if op = 0 then decide (0 ≤ n) && (decide (n ≤ 99999) && decide (l.length = 0))
  else if op = 13 then decide (0 ≤ n) && (decide (n < 4) && decide (l.length = 0))
  else decide (1 ≤ op) && (decide (op ≤ 12) && (decide (n = 0) && (match l with
   | [a, b] => vx d a.f0 a.f1 a.f2 && vx d b.f0 b.f1 b.f2
   | _ => false)))
theorem two_of {α : Type} {l : List α} (h : l.length = 2) : ∃ a b, l = [a, b] := by
 match l, h with
 | [a, b], _ => exact ⟨a, b, rfl⟩
theorem vx_tree : ∀ (d : Nat) (op n : Int) (l : List S56), vx d op n l = true → ∃ x : X, x.ok ∧ x.depth ≤ d ∧ emb x = ⟨op, n, l⟩
 | 0, _, _, _, h => by cases h
 | d + 1, op, n, l, h => by
  unfold vx at h
  by_cases h0 : op = 0
  ·rw [if_pos h0] at h
   simp only [Bool.and_eq_true, decide_eq_true_eq] at h
   subst h0
   exact ⟨.num n, ⟨h.1, h.2.1⟩, by simp [X.depth], by rw [emb, List.eq_nil_of_length_eq_zero h.2.2]⟩
  ·rw [if_neg h0] at h
   by_cases h13 : op = 13
   ·rw [if_pos h13] at h
    simp only [Bool.and_eq_true, decide_eq_true_eq] at h
    subst h13
    exact ⟨.var n, ⟨h.1, h.2.1⟩, by simp [X.depth], by rw [emb, List.eq_nil_of_length_eq_zero h.2.2]⟩
   ·rw [if_neg h13] at h
    simp only [Bool.and_eq_true, decide_eq_true_eq] at h
    obtain ⟨h1, h2, h3, h4⟩ := h
    split at h4
    ·rename_i a b
     simp only [Bool.and_eq_true] at h4
     obtain ⟨x, x1, x2, x3⟩ := vx_tree d a.f0 a.f1 a.f2 h4.1
     obtain ⟨y, y1, y2, y3⟩ := vx_tree d b.f0 b.f1 b.f2 h4.2
     exact ⟨.bin op x y, ⟨⟨h1, h2⟩, x1, y1⟩, by simp only [X.depth]; omega, by rw [emb, x3, y3, h3, etaE, etaE]⟩
    ·cases h4
theorem impl_OpValid_eq (a : Int) : impl_OpValid.f a = some (decide (1 ≤ a) && decide (a ≤ 12)) := by
 unfold impl_OpValid.f
 by_cases h : a ≥ 1
 ·rw [if_pos h, decide_eq_true h, Bool.true_and]
 ·rw [if_neg h, decide_eq_false h, Bool.false_and]
theorem spec_OpValid_eq (a : Int) : spec_OpValid.f a = some (decide (1 ≤ a) && decide (a ≤ 12)) := by
 unfold spec_OpValid.f
 rw [l6In_eq]
 rfl
theorem impl_exprValid_ev : ∀ (d : Nat) (op n : Int) (l : List S56), d ≤ 1000 → EvP (fun k => impl_exprValid.f k op n l (d : Int)) (· = vx d op n l)
  | 0, op, n, l, hd => by
    refine EvP.step (fun k => impl_exprValid.f.eq_2 (k := k) ..) ?_
    refine EvP.ite (fun h => ?_) (fun h => ?_)
    · refine EvP.ite (fun _ => EvP.ite (fun _ => EvP.ite (fun _ => EvP.ret ?_) (fun _ => EvP.ret ?_)) (fun _ => EvP.ret ?_)) (fun _ => EvP.ret ?_) <;> simp [vx]
    · refine EvP.ite (fun h => ?_) (fun h => ?_)
      · refine EvP.ite (fun _ => EvP.ite (fun _ => EvP.ite (fun _ => EvP.ret ?_) (fun _ => EvP.ret ?_)) (fun _ => EvP.ret ?_)) (fun _ => EvP.ret ?_) <;> simp [vx]
      · refine EvP.bind0 (impl_OpValid_eq op) (EvP.ite (fun _ => EvP.ite (fun _ => EvP.ite (fun _ => EvP.no (by omega) (EvP.ret ?_)) (fun _ => EvP.ret ?_)) (fun _ => EvP.ret ?_)) (fun _ => EvP.ret ?_)) <;> simp [vx]
  | d + 1, op, n, l, hd => by
    refine EvP.step (fun k => impl_exprValid.f.eq_2 (k := k) ..) ?_
    unfold vx
    refine EvP.ite (fun h => ?_) (fun h => ?_)
    · rw [if_pos h]
      refine EvP.ite (fun h1 => EvP.ite (fun h2 => EvP.ite (fun h3 => EvP.ret ?_) (fun h3 => EvP.ret ?_)) (fun h2 => EvP.ret ?_)) (fun h1 => EvP.ret ?_)
      · rw [decide_eq_true (show 0 ≤ n from h1), decide_eq_true h2, decide_eq_true (show l.length = 0 by omega)]
        simp
      · rw [decide_eq_false (p := l.length = 0) (by omega)]
        simp
      · rw [decide_eq_false h2]
        simp
      · rw [decide_eq_false (p := 0 ≤ n) h1]
        simp
    · rw [if_neg h]
      refine EvP.ite (fun h => ?_) (fun h13 => ?_)
      · rw [if_pos h]
        refine EvP.ite (fun h1 => EvP.ite (fun h2 => EvP.ite (fun h3 => EvP.ret ?_) (fun h3 => EvP.ret ?_)) (fun h2 => EvP.ret ?_)) (fun h1 => EvP.ret ?_)
        · rw [decide_eq_true (show 0 ≤ n from h1), decide_eq_true h2, decide_eq_true (show l.length = 0 by omega)]
          simp
        · rw [decide_eq_false (p := l.length = 0) (by omega)]
          simp
        · rw [decide_eq_false h2]
          simp
        · rw [decide_eq_false (p := 0 ≤ n) h1]
          simp
      · rw [if_neg h13]
        refine EvP.bind0 (impl_OpValid_eq op) (EvP.ite (fun h1 => ?_) (fun h1 => EvP.ret ?_))
        · simp only [Bool.and_eq_true, decide_eq_true_eq] at h1
          rw [decide_eq_true h1.1, decide_eq_true h1.2]
          refine EvP.ite (fun h2 => ?_) (fun h2 => EvP.ret (by rw [decide_eq_false h2]; rfl))
          rw [decide_eq_true h2]
          refine EvP.ite (fun h3 => ?_) (fun h3 => EvP.ret ?_)
          · obtain ⟨a, b, rfl⟩ := two_of (show l.length = 2 by omega)
            refine EvP.ite (fun h4 => ?_) (fun h4 => EvP.ret ?_)
            · rw [w64 (by omega) (by omega), show ((d + 1 : Nat) : Int) - 1 = (d : Int) by omega, rdE_0, rdE_1]
              refine EvP.yes (by simp) (EvP.bindEq (impl_exprValid_ev d _ _ _ (by omega)) (EvP.ite (fun h5 => ?_) (fun h5 => EvP.ret ?_)))
              · refine EvP.yes (by simp) (EvP.bindEq (impl_exprValid_ev d _ _ _ (by omega)) (EvP.ret ?_))
                simp [h5]
              · simp [h5]
            · have hd0 : d = 0 := by omega
              subst hd0
              rfl
          · split
            · simp at h3
            · rfl
        · symm
          rw [Bool.eq_false_iff]
          intro e
          simp only [Bool.and_eq_true, decide_eq_true_eq] at e h1
          exact h1 ⟨e.1, e.2.1⟩
theorem spec_l4Ok_ev : ∀ (d : Nat) (op n : Int) (l : List S56), d ≤ 1000 → EvP (fun k => spec_l4Ok.f k op n l (d : Int)) (· = vx d op n l)
  | 0, op, n, l, hd => EvP.step (fun k => spec_l4Ok.f.eq_2 (k := k) ..) (EvP.yes (by omega) (EvP.ret rfl))
  | d + 1, op, n, l, hd => by
    have hlen : ((l.length : Int) == 0) = decide (l.length = 0) := by
      rw [Bool.eq_iff_iff, beq_iff_eq, decide_eq_true_eq]
      omega
    refine EvP.step (fun k => spec_l4Ok.f.eq_2 (k := k) ..) (EvP.no (by omega) ?_)
    unfold vx
    refine EvP.ite (fun h => ?_) (fun h => ?_)
    · rw [if_pos h, l6In_eq]
      refine EvP.bind0 rfl (EvP.ite (fun h1 => EvP.ret ?_) (fun h1 => EvP.ret ?_))
      · rw [hlen]
        simp only [Bool.and_eq_true, decide_eq_true_eq] at h1
        rw [decide_eq_true h1.1, decide_eq_true h1.2]
        rfl
      · rw [← Bool.and_assoc, Bool.eq_false_iff.mpr h1]
        rfl
    · rw [if_neg h]
      refine EvP.ite (fun h => ?_) (fun h13 => ?_)
      · rw [if_pos h, l6In_eq]
        have e3 : decide (n < 4) = decide (n ≤ 3) := decide_eq_decide.mpr (by omega)
        rw [e3]
        refine EvP.bind0 rfl (EvP.ite (fun h1 => EvP.ret ?_) (fun h1 => EvP.ret ?_))
        · rw [hlen]
          simp only [Bool.and_eq_true, decide_eq_true_eq] at h1
          rw [decide_eq_true h1.1, decide_eq_true h1.2]
          rfl
        · rw [← Bool.and_assoc, Bool.eq_false_iff.mpr h1]
          rfl
      · rw [if_neg h13]
        refine EvP.bind0 (spec_OpValid_eq op) (EvP.ite (fun h1 => ?_) (fun h1 => EvP.ret ?_))
        · simp only [Bool.and_eq_true, decide_eq_true_eq] at h1
          rw [decide_eq_true h1.1, decide_eq_true h1.2]
          refine EvP.ite (fun h2 => ?_) (fun h2 => EvP.ret (by rw [decide_eq_false h2]; rfl))
          rw [decide_eq_true h2]
          refine EvP.ite (fun h3 => ?_) (fun h3 => EvP.ret ?_)
          · obtain ⟨a, b, rfl⟩ := two_of (show l.length = 2 by omega)
            rw [w64 (by omega) (by omega), show ((d + 1 : Nat) : Int) - 1 = (d : Int) by omega, rdE_0, rdE_1]
            refine EvP.yes (by simp) (EvP.bindEq (spec_l4Ok_ev d _ _ _ (by omega)) (EvP.ite (fun h5 => ?_) (fun h5 => EvP.ret ?_)))
            · refine EvP.yes (by simp) (EvP.bindEq (spec_l4Ok_ev d _ _ _ (by omega)) (EvP.ret ?_))
              simp [h5]
            · simp [h5]
          · split
            · simp at h3
            · rfl
        · rw [← Bool.and_assoc, Bool.eq_false_iff.mpr h1]
          rfl
theorem spec_ExprValid_ev (op n : Int) (l : List S56) : EvP (fun k => spec_ExprValid.f k op n l) (· = vx 5 op n l) := by
  unfold spec_ExprValid.f
  exact EvP.bindEq (spec_l4Ok_ev 5 op n l (by omega)) (EvP.ret rfl)
theorem impl_ExprValid_ev (op n : Int) (l : List S56) : EvP (fun k => impl_ExprValid.f k op n l) (· = vx 5 op n l) := by
  unfold impl_ExprValid.f
  exact EvP.bindEq (impl_exprValid_ev 5 op n l (by omega)) (EvP.ret rfl)
def tri (e : S56) : Int × Int × List S56 := (e.f0, e.f1, e.f2)
mutual
def trE : S111 → S56
 | ⟨a, b, l⟩ => ⟨a, b, trEs l⟩
def trEs : List S111 → List S56
 | [] => []
 | x :: xs => trE x :: trEs xs
end
mutual
def cntE : S111 → Nat
 | ⟨_, _, l⟩ => cntEs l
def cntEs : List S111 → Nat
 | [] => 0
 | x :: xs => cntE x + 1 + cntEs xs
end
theorem trE_f (x : S111) : trE x = ⟨x.f0, x.f1, trEs x.f2⟩ := by
 cases x
 rw [trE]
theorem cntE_f (x : S111) : cntE x = cntEs x.f2 := by
 cases x
 rw [cntE]
theorem trEs_length : ∀ l : List S111, (trEs l).length = l.length
 | [] => by rw [trEs]; rfl
 | x :: xs => by rw [trEs, List.length_cons, List.length_cons, trEs_length xs]
theorem cntEs_length : ∀ l : List S111, l.length ≤ cntEs l
 | [] => Nat.zero_le _
 | x :: xs => by
  have := cntEs_length xs
  rw [cntEs, List.length_cons]
  omega
theorem cntEs_mem : ∀ (l : List S111) (x : S111), x ∈ l → cntE x ≤ cntEs l
 | y :: ys, x, h => by
  rw [cntEs]
  rcases List.mem_cons.1 h with rfl | h
  ·omega
  ·have := cntEs_mem ys x h
   omega
theorem cntEs_drop (l : List S111) (i : Nat) (h : i < l.length) : cntEs (l.drop i) = cntE l[i] + 1 + cntEs (l.drop (i + 1)) := by
 rw [List.drop_eq_getElem_cons h, cntEs]
theorem ind_LE {P : S111 → Prop} (h : ∀ e : S111, (∀ x ∈ e.f2, P x) → P e) (e : S111) : P e :=
 S111.rec (motive_1 := P) (motive_2 := fun l => ∀ x ∈ l, P x) (fun a b l ih => h ⟨a, b, l⟩ ih) (fun x hx => by simp at hx) (fun y ys h1 h2 x hx => by
  rcases List.mem_cons.1 hx with rfl | hx
  ·exact h1
  ·exact h2 x hx) e
theorem rdLE_nat (l : List S111) (i : Nat) (h : i < l.length) : rd_T111 l (i : Int) = l[i] := by
 unfold rd_T111
 rw [Int.toNat_natCast, List.getD_eq_getElem?_getD, List.getElem?_eq_getElem h]
 rfl
def lefts (c : Nat) (n : Int) : Int := if (c : Int) ≤ n then n - c else -1
theorem szExprS_l0 (l : List S111) (hl : l.length ≤ 1048576) (he : ∀ x ∈ l, ∀ n : Int, 0 ≤ n → n ≤ 1048576 → EvP (fun k => laws_szExpr.f k x.f0 x.f1 x.f2 n) (· = lefts (cntE x) n)) :
    ∀ (d j : Nat) (n : Int), j + d = l.length → 0 ≤ n → n ≤ 1048576 → EvP (fun k => laws_szExprS.l0 k l n (j : Int)) (· = lefts (cntEs (l.drop j) - d) n) := by
  intro d
  induction d with
  | zero =>
    intro j n hj h0 h1
    refine EvP.step (fun k => laws_szExprS.l0.eq_2 (k := k) ..) (EvP.no (by omega) (EvP.ret ?_))
    rw [List.drop_eq_nil_of_le (by omega)]
    unfold lefts
    rw [if_pos (by simp [cntEs]; omega)]
    simp [cntEs]
  | succ d ih =>
    intro j n hj h0 h1
    have hlt : j < l.length := by omega
    have hc := cntEs_drop l j hlt
    have hd : d ≤ cntEs (l.drop (j + 1)) := by
      have := cntEs_length (l.drop (j + 1))
      rw [List.length_drop] at this
      omega
    refine EvP.step (fun k => laws_szExprS.l0.eq_2 (k := k) ..) (EvP.yes (by omega) (EvP.yes (by omega) ?_))
    rw [rdLE_nat l j hlt, w64 (n := (j : Int) + 1) (by omega) (by omega)]
    refine EvP.bindEq (he _ (List.getElem_mem hlt) n h0 h1) ?_
    by_cases h2 : (cntE l[j] : Int) ≤ n
    · have e : lefts (cntE l[j]) n = n - cntE l[j] := if_pos h2
      rw [e]
      refine EvP.no (by omega) ?_
      refine (ih (j + 1) (n - cntE l[j]) (by omega) (by omega) (by omega)).mono fun a ha => ?_
      rw [ha]
      unfold lefts
      by_cases h3 : ((cntEs (l.drop (j + 1)) - d : Nat) : Int) ≤ n - cntE l[j]
      · rw [if_pos h3, if_pos (by omega)]
        omega
      · rw [if_neg h3, if_neg (by omega)]
    · have e : lefts (cntE l[j]) n = -1 := if_neg h2
      rw [e]
      refine EvP.yes (by omega) (EvP.ret ?_)
      unfold lefts
      rw [if_neg (by omega)]
theorem szExprS_of (l : List S111) (hl : l.length ≤ maxLen) (he : ∀ x ∈ l, ∀ n : Int, 0 ≤ n → n ≤ 1048576 → EvP (fun k => laws_szExpr.f k x.f0 x.f1 x.f2 n) (· = lefts (cntE x) n)) (n : Int) (h0 : 0 ≤ n) (h1 : n ≤ 1048576) :
    EvP (fun k => laws_szExprS.f k l n) (· = lefts (cntEs l) n) := by
  have hm : maxLen = 9223372036854775807 := rfl
  have hc := cntEs_length l
  refine EvP.step (fun k => laws_szExprS.f.eq_2 (k := k) ..) ?_
  rw [w64 (by omega) (by omega)]
  refine EvP.ite (fun h => EvP.ret ?_) (fun h => ?_)
  · unfold lefts
    rw [if_neg (by omega)]
  · refine (szExprS_l0 l (by omega) he l.length 0 (n - l.length) (by omega) (by omega) (by omega)).mono fun a ha => ?_
    rw [ha, List.drop_zero]
    unfold lefts
    by_cases h3 : ((cntEs l - l.length : Nat) : Int) ≤ n - l.length
    · rw [if_pos h3, if_pos (by omega)]
      omega
    · rw [if_neg h3, if_neg (by omega)]
theorem szExpr_ev (e : S111) : WF111 e → ∀ n : Int, 0 ≤ n → n ≤ 1048576 → EvP (fun k => laws_szExpr.f k e.f0 e.f1 e.f2 n) (· = lefts (cntE e) n) := by
  refine ind_LE (P := fun e => WF111 e → ∀ n : Int, 0 ≤ n → n ≤ 1048576 → EvP (fun k => laws_szExpr.f k e.f0 e.f1 e.f2 n) (· = lefts (cntE e) n)) (fun e ih hw n h0 h1 => ?_) e
  cases hw with
  | mk _ _ _ hl hx =>
    refine EvP.step (fun k => laws_szExpr.f.eq_2 (k := k) ..) ?_
    refine EvP.bindEq (szExprS_of e.f2 hl (fun x hm => ih x hm (hx x hm)) n h0 h1) ?_
    rw [cntE_f]
    refine EvP.ite (fun h => EvP.ret ?_) (fun h => EvP.ret rfl)
    unfold lefts at h ⊢
    by_cases h3 : (cntEs e.f2 : Int) ≤ n
    · rw [if_pos h3] at h
      omega
    · rw [if_neg h3]
theorem toExprS_l0 (l : List S111) (hl : l.length ≤ 1048576) (he : ∀ x ∈ l, EvP (fun k => laws_toExpr.f k x.f0 x.f1 x.f2) (· = tri (trE x))) :
    ∀ (d j : Nat) (m : List S56), j + d = l.length → m.length = l.length → EvP (fun k => laws_toExprS.l0 k l m (j : Int)) (· = m.take j ++ trEs (l.drop j)) := by
  intro d
  induction d with
  | zero =>
    intro j m hj hm
    refine EvP.step (fun k => laws_toExprS.l0.eq_2 (k := k) ..) (EvP.no (by omega) (EvP.ret ?_))
    rw [List.drop_eq_nil_of_le (by omega), List.take_of_length_le (by omega)]
    simp [trEs]
  | succ d ih =>
    intro j m hj hm
    have hlt : j < l.length := by omega
    refine EvP.step (fun k => laws_toExprS.l0.eq_2 (k := k) ..) (EvP.yes (by omega) (EvP.yes (by omega) ?_))
    rw [rdLE_nat l j hlt, w64 (n := (j : Int) + 1) (by omega) (by omega), Int.toNat_natCast]
    refine EvP.bindEq (he _ (List.getElem_mem hlt)) (EvP.yes (by omega) ?_)
    simp only [tri, etaE]
    refine (ih (j + 1) (m.set j (trE l[j])) (by omega) (by rw [List.length_set]; exact hm)).mono fun a ha => ?_
    rw [ha, List.take_succ_eq_append_getElem (by rw [List.length_set]; omega), List.getElem_set_self, List.take_set_of_le (by omega), List.append_assoc, List.drop_eq_getElem_cons hlt, trEs]
    rfl
theorem toExprS_of (l : List S111) (hl : l.length ≤ 1048576) (he : ∀ x ∈ l, EvP (fun k => laws_toExpr.f k x.f0 x.f1 x.f2) (· = tri (trE x))) : EvP (fun k => laws_toExprS.f k l) (· = trEs l) := by
  refine EvP.step (fun k => laws_toExprS.f.eq_2 (k := k) ..) (EvP.yes (by omega) (EvP.yes (by omega) ?_))
  exact toExprS_l0 l hl he l.length 0 _ (by omega) (by rw [List.length_replicate]; omega)
theorem toExpr_ev (e : S111) : cntE e ≤ 1048576 → EvP (fun k => laws_toExpr.f k e.f0 e.f1 e.f2) (· = tri (trE e)) := by
  refine ind_LE (P := fun e => cntE e ≤ 1048576 → EvP (fun k => laws_toExpr.f k e.f0 e.f1 e.f2) (· = tri (trE e))) (fun e ih hc => ?_) e
  rw [cntE_f] at hc
  have hl := cntEs_length e.f2
  refine EvP.step (fun k => laws_toExpr.f.eq_2 (k := k) ..) ?_
  refine EvP.bindEq (toExprS_of e.f2 (by omega) (fun x hm => ih x hm (by have := cntEs_mem e.f2 x hm; omega))) (EvP.ret ?_)
  rw [trE_f]
  rfl
theorem eqExprS_l0 (m : List S56) (hl : m.length ≤ 1048576) (he : ∀ x ∈ m, EvP (fun k => laws_eqExpr.f k x.f0 x.f1 x.f2 x.f0 x.f1 x.f2) (· = true)) :
    ∀ (d j : Nat), j + d = m.length → EvP (fun k => laws_eqExprS.l0 k m m (j : Int)) (· = true) := by
  intro d
  induction d with
  | zero =>
    intro j hj
    exact EvP.step (fun k => laws_eqExprS.l0.eq_2 (k := k) ..) (EvP.no (by omega) (EvP.ret rfl))
  | succ d ih =>
    intro j hj
    have hlt : j < m.length := by omega
    refine EvP.step (fun k => laws_eqExprS.l0.eq_2 (k := k) ..) (EvP.yes (by omega) (EvP.yes (by omega) (EvP.yes (by omega) ?_)))
    rw [rdE_nat m j hlt, w64 (n := (j : Int) + 1) (by omega) (by omega)]
    exact EvP.bindEq (he _ (List.getElem_mem hlt)) (EvP.yes rfl (ih (j + 1) (by omega)))
theorem eqExprS_of (m : List S56) (hl : m.length ≤ 1048576) (he : ∀ x ∈ m, EvP (fun k => laws_eqExpr.f k x.f0 x.f1 x.f2 x.f0 x.f1 x.f2) (· = true)) : EvP (fun k => laws_eqExprS.f k m m) (· = true) :=
  EvP.step (fun k => laws_eqExprS.f.eq_2 (k := k) ..) (EvP.yes rfl (eqExprS_l0 m hl he m.length 0 (by omega)))
inductive Short : S56 → Prop
 | mk (x : S56) (h : x.f2.length ≤ 1048576) (g : ∀ y ∈ x.f2, Short y) : Short x
theorem eqExpr_short (e : S56) (h : Short e) : EvP (fun k => laws_eqExpr.f k e.f0 e.f1 e.f2 e.f0 e.f1 e.f2) (· = true) := by
  induction h with
  | mk x h g ih =>
    refine EvP.step (fun k => laws_eqExpr.f.eq_2 (k := k) ..) (EvP.yes rfl (EvP.yes rfl ?_))
    exact EvP.bindEq (eqExprS_of x.f2 h ih) (EvP.yes rfl (EvP.ret rfl))
theorem trEs_mem {l : List S111} {y : S56} (h : y ∈ trEs l) : ∃ x ∈ l, y = trE x := by
 induction l with
 | nil => simp [trEs] at h
 | cons a l ih =>
  rw [trEs] at h
  rcases List.mem_cons.1 h with rfl | h
  ·exact ⟨a, List.mem_cons_self, rfl⟩
  ·obtain ⟨x, hx, e⟩ := ih h
   exact ⟨x, List.mem_cons_of_mem _ hx, e⟩
theorem short_trE (e : S111) : cntE e ≤ 1048576 → Short (trE e) := by
 refine ind_LE (P := fun e => cntE e ≤ 1048576 → Short (trE e)) (fun e ih hc => ?_) e
 rw [cntE_f] at hc
 have hl := cntEs_length e.f2
 rw [trE_f]
 refine .mk _ (by rw [trEs_length]; omega) fun y hy => ?_
 obtain ⟨x, hx, rfl⟩ := trEs_mem hy
 exact ih x hx (by have := cntEs_mem e.f2 x hx; omega)
mutual
def cS : S58 → Nat
 | ⟨_, _, _, _, b, e⟩ => cSs b + cSs e
def cSs : List S58 → Nat
 | [] => 0
 | x :: xs => cS x + 1 + cSs xs
end
theorem cS_f (x : S58) : cS x = cSs x.f4 + cSs x.f5 := by
 cases x
 rw [cS]
theorem cSs_length : ∀ l : List S58, l.length ≤ cSs l
 | [] => Nat.zero_le _
 | x :: xs => by
  have := cSs_length xs
  rw [cSs, List.length_cons]
  omega
theorem cSs_append : ∀ l m : List S58, cSs (l ++ m) = cSs l + cSs m
 | [], m => by rw [cSs]; simp
 | x :: xs, m => by
  rw [List.cons_append, cSs, cSs, cSs_append xs m]
  omega
theorem cSs_mem : ∀ (l : List S58) (x : S58), x ∈ l → cS x < cSs l
 | y :: ys, x, h => by
  rw [cSs]
  rcases List.mem_cons.1 h with rfl | h
  ·omega
  ·have := cSs_mem ys x h
   omega
theorem cSs_drop (l : List S58) (i : Nat) (h : i < l.length) : cSs (l.drop i) = cS l[i] + 1 + cSs (l.drop (i + 1)) := by
 rw [List.drop_eq_getElem_cons h, cSs]
theorem cSs_one (x : S58) : cSs [x] = cS x + 1 := by
 rw [cSs, cSs]
theorem cSs_nil : cSs [] = 0 := by rw [cSs]
theorem rdS_nat (l : List S58) (i : Nat) (h : i < l.length) : rd_T58 l (i : Int) = l[i] := by
 unfold rd_T58
 rw [Int.toNat_natCast, List.getD_eq_getElem?_getD, List.getElem?_eq_getElem h]
 rfl
def varOk (use : Bool) (va : Int) : Bool := if use = true then decide (0 ≤ va) && decide (va ≤ 3) else va == 0
def boxOk (boxes : Int) (use : Bool) (bx : Int) : Bool := if use = true then decide (0 ≤ bx) && decide (bx ≤ boxes - 1) else bx == 0
def plainOk (op n : Int) (la : List S56) : Bool := op == 0 && (n == 0 && la.length == 0)
def restOk (boxes : Int) (nv nb ne nd no : Bool) (va bx op n : Int) (la : List S56) (lb le : Nat) : Bool :=
 varOk nv va && (boxOk boxes nb bx && ((if ne = true then vx 5 op n la else plainOk op n la) && ((nd || lb == 0) && (no || le == 0))))
def stOk (boxes kd va bx op n : Int) (la : List S56) (lb le : Nat) : Bool :=
 if kd = 1 then restOk boxes true false true false false va bx op n la lb le
 else if kd = 2 then restOk boxes false false true true true va bx op n la lb le
 else if kd = 3 then restOk boxes false false true true false va bx op n la lb le
 else if kd = 4 then restOk boxes false true true false false va bx op n la lb le
 else if kd = 5 then restOk boxes true true false false false va bx op n la lb le
 else if kd = 7 then restOk boxes false false true false false va bx op n la lb le
 else if kd = 6 then restOk boxes false false false false false va bx op n la lb le
 else false
def stS (boxes : Int) (s : S58) : Bool := stOk boxes s.f0 s.f1 s.f2 s.f3.f0 s.f3.f1 s.f3.f2 s.f4.length s.f5.length
def isBlk (s : S58) : Bool := s.f0 == 2 || s.f0 == 3
def okOne (boxes : Int) : Nat → S58 → Bool
 | 0, s => stS boxes s && !isBlk s
 | d + 1, s => stS boxes s && (!isBlk s || (s.f4.all (okOne boxes d) && s.f5.all (okOne boxes d)))
def okL (boxes : Int) (d : Nat) (l : List S58) : Bool := l.all (okOne boxes d)
theorem okOne_st {boxes : Int} {d : Nat} {s : S58} (h : okOne boxes d s = true) : stS boxes s = true := by
 cases d <;> (simp only [okOne, Bool.and_eq_true] at h; exact h.1)
theorem stOk_flat {boxes kd va bx op n : Int} {la : List S56} {lb le : Nat} (h : stOk boxes kd va bx op n la lb le = true) (h2 : kd ≠ 2) (h3 : kd ≠ 3) : lb = 0 ∧ le = 0 := by
 unfold stOk at h
 rw [if_neg h2, if_neg h3] at h
 repeat' split at h
 all_goals first
  | (cases h; done)
  | (simp only [restOk, Bool.and_eq_true, Bool.false_or, beq_iff_eq] at h; exact h.2.2.2)
theorem flat_cS {boxes : Int} {s : S58} (h : stS boxes s = true) (h2 : ¬ (s.f0 = 2 ∨ s.f0 = 3)) : cS s = 0 := by
 obtain ⟨h4, h5⟩ := stOk_flat h (fun e => h2 (.inl e)) (fun e => h2 (.inr e))
 rw [cS_f, List.eq_nil_of_length_eq_zero h4, List.eq_nil_of_length_eq_zero h5, cSs]
theorem isBlk_iff (s : S58) : isBlk s = true ↔ s.f0 = 2 ∨ s.f0 = 3 := by
 unfold isBlk
 simp
theorem inr_var (use : Bool) (va : Int) : inr va 4 use = varOk use va := by
 rw [Bool.eq_iff_iff]
 cases use
 ·simp [inr, varOk]
 ·simp [inr, varOk]
  omega
theorem stv_rest_ev (nv nb ne nd no : Bool) (va bx op n : Int) (la : List S56) (lb le : Nat) (boxes : Int) :
    EvP (fun k => stv_rest k nv nb ne nd no va bx op n la lb le boxes) (· = restOk boxes nv nb ne nd no va bx op n la lb le) := by
  unfold stv_rest restOk
  rw [inr_var]
  refine EvP.ite (fun h1 => ?_) (fun h1 => EvP.ret (by rw [Bool.eq_false_iff.mpr h1]; rfl))
  rw [h1, Bool.true_and]
  have hb : (inr bx boxes nb = true ∧ ¬ (nb = true ∧ boxes ≤ bx)) ↔ boxOk boxes nb bx = true := by
    cases nb
    · simp [inr, boxOk]
    · simp [inr, boxOk]
      omega
  refine EvP.ite (fun h2 => EvP.ite (fun h3 => EvP.ret ?_) (fun h3 => ?_)) (fun h2 => EvP.ret ?_)
  · have : boxOk boxes nb bx = false := Bool.eq_false_iff.mpr (fun e => (hb.mpr e).2 h3)
    rw [this]
    rfl
  · rw [hb.mp ⟨h2, h3⟩, Bool.true_and]
    refine EvP.ite (fun h4 => ?_) (fun h4 => ?_)
    · rw [if_pos h4]
      refine EvP.bindEq (impl_ExprValid_ev op n la) (EvP.ite (fun h5 => EvP.ret (by rw [h5, Bool.true_and])) (fun h5 => EvP.ret (by rw [Bool.eq_false_iff.mpr h5]; rfl)))
    · rw [if_neg h4]
      unfold plainOk
      refine EvP.ite (fun h5 => EvP.ite (fun h6 => EvP.ite (fun h7 => EvP.ret ?_) (fun h7 => EvP.ret ?_)) (fun h6 => EvP.ret ?_)) (fun h5 => EvP.ret ?_)
      · rw [beq_eq_false_iff_ne.mpr (show la.length ≠ 0 by omega)]
        simp
      · rw [h5, h6, beq_iff_eq.mpr (show la.length = 0 by omega)]
        simp
      · rw [beq_eq_false_iff_ne.mpr h6]
        simp
      · rw [beq_eq_false_iff_ne.mpr h5]
        simp
  · have : boxOk boxes nb bx = false := Bool.eq_false_iff.mpr (fun e => h2 (hb.mpr e).1)
    rw [this]
    rfl
theorem impl_stmtValid_ev (kd va bx op n : Int) (la : List S56) (lb le : Nat) (boxes : Int) :
    EvP (fun k => impl_stmtValid.f k kd va bx op n la lb le boxes) (· = stOk boxes kd va bx op n la lb le) := by
  unfold impl_stmtValid.f stOk
  have hr := fun nv nb ne nd no => stv_rest_ev nv nb ne nd no va bx op n la lb le boxes
  repeat (refine EvP.ite (fun h => ?_) (fun h => ?_); · rw [if_pos h]; exact hr _ _ _ _ _
          rw [if_neg h])
  exact EvP.ret rfl
def BlkSays (boxes : Int) (d : Nat) (l : List S58) (cnt : Int) (p : Bool × Int) : Prop :=
 p.1 = (okL boxes d l && decide (cnt + cSs l ≤ 16)) ∧ (p.1 = true → p.2 = cnt + cSs l)
theorem blockValid_l0 (boxes blocks : Int) (d : Nat) (hd : d ≤ 3) (hb : blocks = 3 - d) (l : List S58) (hl : cSs l ≤ 1000000000)
  (sub : ∀ d', d = d' + 1 → ∀ (m : List S58) (cnt : Int), cSs m ≤ 1000000000 → 0 ≤ cnt → cnt ≤ 16 → EvP (fun k => impl_blockValid.f k m boxes (wrap64 (blocks + 1)) cnt) (BlkSays boxes d' m cnt)) :
  ∀ (r j : Nat) (cnt : Int), j + r = l.length → 0 ≤ cnt → cnt ≤ 16 →
   EvP (fun k => impl_blockValid.l0 k l boxes blocks (j : Int) cnt) (fun p => p.1 = (okL boxes d (l.drop j) && decide (cnt + cSs (l.drop j) - r ≤ 16)) ∧ (p.1 = true → p.2 = cnt + cSs (l.drop j) - r)) := by
 intro r
 have hlen := cSs_length l
 induction r with
 | zero =>
  intro j cnt hj h0 h1
  refine EvP.step (fun k => impl_blockValid.l0.eq_2 (k := k) ..) (EvP.no (by omega) (EvP.ret ?_))
  rw [List.drop_eq_nil_of_le (by omega), cSs_nil]
  constructor
  ·simp [okL]
   omega
  ·intro _
   simp
 | succ r ih =>
  intro j cnt hj h0 h1
  have hlt : j < l.length := by omega
  have hc := cSs_drop l j hlt
  have hr : r ≤ cSs (l.drop (j + 1)) := by
   have := cSs_length (l.drop (j + 1))
   rw [List.length_drop] at this
   omega
  have hm := cSs_mem l _ (List.getElem_mem hlt)
  have hcs := cS_f l[j]
  have hall : okL boxes d (l.drop j) = (okOne boxes d l[j] && okL boxes d (l.drop (j + 1))) := by
   rw [List.drop_eq_getElem_cons hlt]
   rfl
  rw [hall]
  refine EvP.step (fun k => impl_blockValid.l0.eq_2 (k := k) ..) (EvP.yes (by omega) (EvP.yes (by omega) ?_))
  rw [rdS_nat l j hlt, w64 (n := (j : Int) + 1) (by omega) (by omega)]
  refine EvP.bindEq (impl_stmtValid_ev _ _ _ _ _ _ _ _ _) (EvP.ite (fun hs => ?_) (fun hs => EvP.ret ?_))
  ·have hs : stS boxes l[j] = true := hs
   refine EvP.no (by omega) (EvP.ite (fun hk => ?_) (fun hk => ?_))
   ·have hbk : isBlk l[j] = true := (isBlk_iff _).mpr hk
    cases d with
    | zero =>
     refine EvP.yes (by omega) (EvP.ret ?_)
     have : okOne boxes 0 l[j] = false := by simp [okOne, hbk]
     rw [this]
     exact ⟨rfl, fun h => by cases h⟩
    | succ d' =>
     have ho : okOne boxes (d' + 1) l[j] = (okL boxes d' l[j].f4 && okL boxes d' l[j].f5) := by
      simp only [okOne, hs, hbk, okL]
      rfl
     rw [ho]
     refine EvP.no (by omega) (EvP.bind (sub d' rfl _ cnt (by omega) h0 h1) fun p hp => ?_)
     obtain ⟨hp1, hp2⟩ := hp
     refine EvP.ite (fun hy => ?_) (fun hy => EvP.ret ?_)
     ·have e2 := hp2 hy
      rw [hy] at hp1
      have hq := hp1.symm
      rw [Bool.and_eq_true, decide_eq_true_eq] at hq
      rw [e2]
      refine EvP.bind (sub d' rfl _ _ (by omega) (by omega) hq.2) fun q hq' => ?_
      obtain ⟨hq1, hq2⟩ := hq'
      refine EvP.ite (fun hz => ?_) (fun hz => EvP.ret ?_)
      ·have e3 := hq2 hz
       rw [hz] at hq1
       have hq3 := hq1.symm
       rw [Bool.and_eq_true, decide_eq_true_eq] at hq3
       rw [e3]
       refine (ih (j + 1) _ (by omega) (by omega) hq3.2).mono fun a ha => ?_
       rw [hq.1, hq3.1, Bool.true_and, Bool.true_and]
       refine ⟨ha.1.trans ?_, fun h => (ha.2 h).trans ?_⟩
       ·congr 1
        exact decide_eq_decide.mpr (by omega)
       ·omega
      ·have hz' := Bool.eq_false_iff.mpr hz
       rw [hz'] at hq1
       refine ⟨?_, fun h => by cases h⟩
       show false = _
       symm
       rw [Bool.eq_false_iff]
       intro e
       simp only [Bool.and_eq_true, decide_eq_true_eq] at e
       have : (okL boxes d' l[j].f5 && decide (cnt + ↑(cSs l[j].f4) + ↑(cSs l[j].f5) ≤ 16)) = true := by
        rw [e.1.1.2, decide_eq_true (by omega)]
        rfl
       rw [this] at hq1
       cases hq1
     ·have hy' := Bool.eq_false_iff.mpr hy
      rw [hy'] at hp1
      refine ⟨?_, fun h => by cases h⟩
      show false = _
      symm
      rw [Bool.eq_false_iff]
      intro e
      simp only [Bool.and_eq_true, decide_eq_true_eq] at e
      have : (okL boxes d' l[j].f4 && decide (cnt + ↑(cSs l[j].f4) ≤ 16)) = true := by
       rw [e.1.1.1, decide_eq_true (by omega)]
       rfl
      rw [this] at hp1
      cases hp1
   ·have hbk : isBlk l[j] = false := Bool.eq_false_iff.mpr (fun e => hk ((isBlk_iff _).mp e))
    have ho : okOne boxes d l[j] = true := by
     cases d <;> simp [okOne, hs, hbk]
    have hz := flat_cS hs hk
    rw [ho, Bool.true_and]
    refine (ih (j + 1) cnt (by omega) h0 h1).mono fun a ha => ?_
    refine ⟨ha.1.trans ?_, fun h => (ha.2 h).trans ?_⟩
    ·congr 1
     exact decide_eq_decide.mpr (by omega)
    ·omega
  ·have hs : stS boxes l[j] = false := Bool.eq_false_iff.mpr hs
   have ho : okOne boxes d l[j] = false := Bool.eq_false_iff.mpr (fun e => by rw [okOne_st e] at hs; cases hs)
   rw [ho]
   exact ⟨rfl, fun h => by cases h⟩
theorem impl_blockValid_ev (boxes : Int) : ∀ (d : Nat) (blocks : Int) (l : List S58) (cnt : Int), d ≤ 3 → blocks = 3 - d → cSs l ≤ 1000000000 → 0 ≤ cnt → cnt ≤ 16 →
  EvP (fun k => impl_blockValid.f k l boxes blocks cnt) (BlkSays boxes d l cnt) := by
 intro d
 induction d with
 | zero =>
  intro blocks l cnt hd hb hl h0 h1
  have hlen := cSs_length l
  refine EvP.step (fun k => impl_blockValid.f.eq_2 (k := k) ..) ?_
  rw [w64 (n := cnt + (l.length : Int)) (by omega) (by omega)]
  refine EvP.ite (fun h => EvP.ret ?_) (fun h => ?_)
  ·refine ⟨?_, fun h => by cases h⟩
   rw [decide_eq_false (by omega)]
   simp
  ·refine (blockValid_l0 boxes blocks 0 hd hb l hl (fun d' e => by omega) l.length 0 _ (by omega) (by omega) (by omega)).mono fun a ha => ?_
   rw [List.drop_zero] at ha
   refine ⟨ha.1.trans ?_, fun h => (ha.2 h).trans ?_⟩
   ·congr 1
    exact decide_eq_decide.mpr (by omega)
   ·omega
 | succ d ih =>
  intro blocks l cnt hd hb hl h0 h1
  have hlen := cSs_length l
  refine EvP.step (fun k => impl_blockValid.f.eq_2 (k := k) ..) ?_
  rw [w64 (n := cnt + (l.length : Int)) (by omega) (by omega)]
  refine EvP.ite (fun h => EvP.ret ?_) (fun h => ?_)
  ·refine ⟨?_, fun h => by cases h⟩
   rw [decide_eq_false (by omega)]
   simp
  ·refine (blockValid_l0 boxes blocks (d + 1) hd hb l hl (fun d' e m cnt hm h0 h1 => ?_) l.length 0 _ (by omega) (by omega) (by omega)).mono fun a ha => ?_
   ·have e' : d = d' := by omega
    subst e'
    rw [w64 (by omega) (by omega)]
    exact ih _ m cnt (by omega) (by omega) hm h0 h1
   ·rw [List.drop_zero] at ha
    refine ⟨ha.1.trans ?_, fun h => (ha.2 h).trans ?_⟩
    ·congr 1
     exact decide_eq_decide.mpr (by omega)
    ·omega
def okT (boxes : Int) (l : List S58) : Bool := okL boxes 3 l && decide (cSs l ≤ 16)
theorem impl_stmtsValid_ev (boxes : Int) (l : List S58) (hl : cSs l ≤ 1000000000) : EvP (fun k => impl_stmtsValid.f k l boxes) (· = okT boxes l) := by
  unfold impl_stmtsValid.f
  refine EvP.bind (impl_blockValid_ev boxes 3 0 l 0 (by omega) (by omega) hl (by omega) (by omega)) fun p hp => EvP.ret ?_
  rw [hp.1]
  unfold okT
  congr 1
  exact decide_eq_decide.mpr (by omega)
theorem spec_l11Var_eq (a b c d e : Int) (l : List S56) (m n : List S58) (u : Bool) : spec_l11Var.f a b c d e l m n u = some (varOk u b) := by
 unfold spec_l11Var.f varOk
 rw [l6In_eq]
 cases u <;> rfl
theorem spec_l11Box_eq (a b c d e : Int) (l : List S56) (m n : List S58) (u : Bool) : spec_l11Box.f a b c d e l m n u = some (boxOk 3 u c) := by
 unfold spec_l11Box.f boxOk
 rw [l6In_eq]
 cases u <;> rfl
theorem spec_l11Plain_eq (op n : Int) (l : List S56) : spec_l11Plain.f op n l = some (plainOk op n l) := by
 unfold spec_l11Plain.f plainOk
 have hlen : ((l.length : Int) == 0) = (l.length == 0) := by
  rw [Bool.eq_iff_iff, beq_iff_eq, beq_iff_eq]
  omega
 by_cases h : op = 0
 ·rw [if_pos h, h]
  by_cases h2 : n = 0
  ·rw [if_pos h2, h2, hlen]
   rfl
  ·rw [if_neg h2, beq_eq_false_iff_ne.mpr h2]
   rfl
 ·rw [if_neg h, beq_eq_false_iff_ne.mpr h]
  rfl
theorem spec_l11Simple_ev (kd va bx op n : Int) (la : List S56) (m1 m2 : List S58) (h2 : kd ≠ 2) (h3 : kd ≠ 3) :
    EvP (fun k => spec_l11Simple.f k kd va bx op n la m1 m2) (· = stOk 3 kd va bx op n la m1.length m2.length) := by
  unfold spec_l11Simple.f
  have yes : ∀ b : Bool, ((m1.length == 0 && m2.length == 0) = !b) → EvP (fun k => spec_l11Simple.j0 k b kd va bx op n la m1 m2) (· = stOk 3 kd va bx op n la m1.length m2.length) := by
    intro b hb
    refine EvP.step (fun k => spec_l11Simple.j0.eq_2 (k := k) ..) ?_
    refine EvP.ite (fun h => EvP.ret ?_) (fun h => ?_)
    · symm
      rw [Bool.eq_false_iff]
      intro e
      obtain ⟨z1, z2⟩ := stOk_flat e h2 h3
      rw [z1, z2, h] at hb
      cases hb
    · have hb' : (m1.length == 0 && m2.length == 0) = true := by
        rw [hb, Bool.eq_false_iff.mpr h]
        rfl
      unfold stOk
      have hT : ∀ a b c : Bool, (a && (b && (c && ((false || m1.length == 0) && (false || m2.length == 0))))) = (a && (b && c)) := by
        intro a b c
        rw [Bool.false_or, Bool.false_or, hb', Bool.and_true]
      refine EvP.ite (fun h1 => ?_) (fun h1 => ?_)
      · rw [if_pos h1]
        unfold restOk
        rw [hT]
        refine EvP.bind0 (spec_l11Var_eq ..) (EvP.ite (fun hv => EvP.bind0 (spec_l11Box_eq ..) (EvP.ite (fun hx => EvP.bindEq (spec_ExprValid_ev ..) (EvP.ret ?_)) (fun hx => EvP.ret ?_))) (fun hv => EvP.ret ?_)) <;> simp [*]
      · rw [if_neg h1, if_neg h2, if_neg h3]
        refine EvP.ite (fun h1 => ?_) (fun h1 => ?_)
        · rw [if_pos h1]
          unfold restOk
          rw [hT]
          refine EvP.bind0 (spec_l11Var_eq ..) (EvP.ite (fun hv => EvP.bind0 (spec_l11Box_eq ..) (EvP.ite (fun hx => EvP.bindEq (spec_ExprValid_ev ..) (EvP.ret ?_)) (fun hx => EvP.ret ?_))) (fun hv => EvP.ret ?_)) <;> simp [*]
        · rw [if_neg h1]
          refine EvP.ite (fun h1 => ?_) (fun h1 => ?_)
          · rw [if_pos h1]
            unfold restOk
            rw [hT]
            refine EvP.bind0 (spec_l11Var_eq ..) (EvP.ite (fun hv => EvP.bind0 (spec_l11Box_eq ..) (EvP.ite (fun hx => EvP.bind0 (spec_l11Plain_eq ..) (EvP.ret ?_)) (fun hx => EvP.ret ?_))) (fun hv => EvP.ret ?_)) <;> simp [*]
          · rw [if_neg h1]
            refine EvP.ite (fun h6 => ?_) (fun h6 => ?_)
            · rw [if_neg (by omega), if_pos h6]
              unfold restOk
              rw [hT]
              refine EvP.bind0 (spec_l11Var_eq ..) (EvP.ite (fun hv => EvP.bind0 (spec_l11Box_eq ..) (EvP.ite (fun hx => EvP.bind0 (spec_l11Plain_eq ..) (EvP.ret ?_)) (fun hx => EvP.ret ?_))) (fun hv => EvP.ret ?_)) <;> simp [*]
            · refine EvP.ite (fun h7 => ?_) (fun h7 => ?_)
              · rw [if_pos h7]
                unfold restOk
                rw [hT]
                refine EvP.bind0 (spec_l11Var_eq ..) (EvP.ite (fun hv => EvP.bind0 (spec_l11Box_eq ..) (EvP.ite (fun hx => EvP.bindEq (spec_ExprValid_ev ..) (EvP.ret ?_)) (fun hx => EvP.ret ?_))) (fun hv => EvP.ret ?_)) <;> simp [*]
              · rw [if_neg h7, if_neg h6]
                exact EvP.ret rfl
  refine EvP.ite (fun h => yes true ?_) (fun h => yes _ ?_)
  · rw [beq_eq_false_iff_ne.mpr (show m1.length ≠ 0 by omega)]
    rfl
  · rw [beq_iff_eq.mpr (show m1.length = 0 by omega), Bool.true_and, ← decide_not, Bool.eq_iff_iff, beq_iff_eq, decide_eq_true_eq]
    omega
theorem spec_l11Blocks_l0 (l : List S58) (hl : l.length ≤ 1000000000) (x1 : Int) (d : Nat) (sub : ∀ x ∈ l, EvP (fun k => spec_l11Ok.f k x.f0 x.f1 x.f2 x.f3.f0 x.f3.f1 x.f3.f2 x.f4 x.f5 x1) (· = okOne 3 d x)) :
    ∀ (r j : Nat), j + r = l.length → EvP (fun k => spec_l11Blocks.l0 k l x1 (j : Int)) (· = okL 3 d (l.drop j)) := by
  intro r
  induction r with
  | zero =>
    intro j hj
    refine EvP.step (fun k => spec_l11Blocks.l0.eq_2 (k := k) ..) (EvP.no (by omega) (EvP.ret ?_))
    rw [List.drop_eq_nil_of_le (by omega)]
    rfl
  | succ r ih =>
    intro j hj
    have hlt : j < l.length := by omega
    refine EvP.step (fun k => spec_l11Blocks.l0.eq_2 (k := k) ..) (EvP.yes (by omega) (EvP.yes (by omega) ?_))
    rw [rdS_nat l j hlt, w64 (n := (j : Int) + 1) (by omega) (by omega)]
    have hall : okL 3 d (l.drop j) = (okOne 3 d l[j] && okL 3 d (l.drop (j + 1))) := by
      rw [List.drop_eq_getElem_cons hlt]
      rfl
    rw [hall]
    refine EvP.bindEq (sub _ (List.getElem_mem hlt)) (EvP.ite (fun h => ?_) (fun h => EvP.ret ?_))
    · rw [h, Bool.true_and]
      exact ih (j + 1) (by omega)
    · rw [Bool.eq_false_iff.mpr h]
      rfl
theorem spec_l11Blocks_of (l : List S58) (hl : l.length ≤ 1000000000) (x1 : Int) (d : Nat) (sub : ∀ x ∈ l, EvP (fun k => spec_l11Ok.f k x.f0 x.f1 x.f2 x.f3.f0 x.f3.f1 x.f3.f2 x.f4 x.f5 x1) (· = okOne 3 d x)) :
    EvP (fun k => spec_l11Blocks.f k l x1) (· = okL 3 d l) :=
  EvP.step (fun k => spec_l11Blocks.f.eq_2 (k := k) ..) (spec_l11Blocks_l0 l hl x1 d sub l.length 0 (by omega))
theorem spec_l11Ok_ev : ∀ (d : Nat) (x1 : Int) (x : S58), d ≤ 3 → x1 = d → cS x ≤ 1000000000 → EvP (fun k => spec_l11Ok.f k x.f0 x.f1 x.f2 x.f3.f0 x.f3.f1 x.f3.f2 x.f4 x.f5 x1) (· = okOne 3 d x) := by
  intro d
  induction d with
  | zero =>
    intro x1 x hd h1 hc
    have j1 : EvP (fun k => spec_l11Ok.j1 k x1 true x.f0 x.f1 x.f2 x.f3.f0 x.f3.f1 x.f3.f2 x.f4 x.f5) (· = false) :=
      EvP.step (fun k => spec_l11Ok.j1.eq_2 (k := k) ..) (EvP.yes rfl (EvP.ret rfl))
    refine EvP.step (fun k => spec_l11Ok.f.eq_2 (k := k) ..) (EvP.ite (fun h2 => ?_) (fun h2 => ?_))
    · have : okOne 3 0 x = false := by simp [okOne, isBlk, h2]
      rw [this]
      refine EvP.step (fun k => spec_l11Ok.j0.eq_2 (k := k) ..) (EvP.no Bool.false_ne_true (EvP.yes (by omega) j1))
    · refine EvP.step (fun k => spec_l11Ok.j0.eq_2 (k := k) ..) (EvP.ite (fun h3 => ?_) (fun h3 => EvP.yes (by omega) ?_))
      · have h3 : x.f0 ≠ 3 := bne_iff_ne.mp h3
        refine EvP.bindEq (spec_l11Simple_ev _ _ _ _ _ _ _ _ h2 h3) (EvP.ret ?_)
        simp [okOne, isBlk, h2, h3, stS]
      · have h3 : x.f0 = 3 := by simpa using h3
        have : okOne 3 0 x = false := by simp [okOne, isBlk, h3]
        rw [this]
        exact j1
  | succ d ih =>
    intro x1 x hd h1 hc
    have hcs := cS_f x
    have e1 : wrap64 (x1 - 1) = (d : Int) := by
      rw [w64 (by omega) (by omega)]
      omega
    have len4 := cSs_length x.f4
    have len5 := cSs_length x.f5
    have sub : ∀ m : List S58, cSs m ≤ 1000000000 → EvP (fun k => spec_l11Blocks.f k m (wrap64 (x1 - 1))) (· = okL 3 d m) := by
      intro m hm
      have := cSs_length m
      refine spec_l11Blocks_of m (by omega) _ d (fun y hy => ih _ y (by omega) e1 ?_)
      have := cSs_mem m y hy
      omega
    have j1 : ∀ b : Bool, isBlk x = true → (b = (x.f0 == 3 && decide ((x.f5.length : Int) > 0))) → EvP (fun k => spec_l11Ok.j1 k x1 b x.f0 x.f1 x.f2 x.f3.f0 x.f3.f1 x.f3.f2 x.f4 x.f5) (· = okOne 3 (d + 1) x) := by
      intro b hb hbb
      have ho : okOne 3 (d + 1) x = (stS 3 x && (okL 3 d x.f4 && okL 3 d x.f5)) := by
        simp only [okOne, hb, okL]
        rfl
      rw [ho]
      refine EvP.step (fun k => spec_l11Ok.j1.eq_2 (k := k) ..) (EvP.ite (fun h => EvP.ret ?_) (fun h => ?_))
      · rw [h] at hbb
        have h4 := hbb.symm
        simp only [Bool.and_eq_true, beq_iff_eq, decide_eq_true_eq] at h4
        have : stS 3 x = false := by
          have hne : (x.f5.length == 0) = false := beq_eq_false_iff_ne.mpr (by omega)
          simp [stS, stOk, h4.1, restOk, hne]
        rw [this]
        rfl
      · have hst : stS 3 x = (varOk false x.f1 && (boxOk 3 false x.f2 && vx 5 x.f3.f0 x.f3.f1 x.f3.f2)) := by
          rcases (isBlk_iff x).mp hb with h2 | h2
          · simp [stS, stOk, h2, restOk]
          · have h5 : x.f5.length = 0 := by
              rw [Bool.eq_false_iff.mpr h, h2] at hbb
              have := hbb.symm
              simp only [beq_self_eq_true, Bool.true_and, decide_eq_false_iff_not] at this
              omega
            simp [stS, stOk, h2, restOk, h5]
        rw [hst]
        refine EvP.bind0 (spec_l11Var_eq ..) (EvP.ite (fun hv => EvP.bind0 (spec_l11Box_eq ..) (EvP.ite (fun hx => EvP.bindEq (spec_ExprValid_ev ..) (EvP.ite (fun he => ?_) (fun he => EvP.ret ?_))) (fun hx => EvP.ret ?_))) (fun hv => EvP.ret ?_))
        · refine EvP.bindEq (sub x.f4 (by omega)) (EvP.ite (fun h4 => EvP.bindEq (sub x.f5 (by omega)) (EvP.ret ?_)) (fun h4 => EvP.ret ?_)) <;> simp [*]
        all_goals simp [*]
    refine EvP.step (fun k => spec_l11Ok.f.eq_2 (k := k) ..) (EvP.ite (fun h2 => ?_) (fun h2 => ?_))
    · refine EvP.step (fun k => spec_l11Ok.j0.eq_2 (k := k) ..) (EvP.no Bool.false_ne_true (EvP.no (by omega) (EvP.no (by omega) (j1 false ?_ ?_))))
      · simp [isBlk, h2]
      · simp [h2]
    · refine EvP.step (fun k => spec_l11Ok.j0.eq_2 (k := k) ..) (EvP.ite (fun h3 => ?_) (fun h3 => EvP.no (by omega) ?_))
      · have h3 : x.f0 ≠ 3 := bne_iff_ne.mp h3
        refine EvP.bindEq (spec_l11Simple_ev _ _ _ _ _ _ _ _ h2 h3) (EvP.ret ?_)
        simp [okOne, isBlk, h2, h3, stS]
      · have h3 : x.f0 = 3 := by simpa using h3
        refine EvP.yes h3 (j1 _ ?_ ?_)
        · simp [isBlk, h3]
        · simp [h3]
theorem spec_l11Blocks_ev (l : List S58) (hl : cSs l ≤ 1000000000) : EvP (fun k => spec_l11Blocks.f k l 3) (· = okL 3 3 l) := by
  have := cSs_length l
  refine spec_l11Blocks_of l (by omega) _ 3 (fun y hy => spec_l11Ok_ev 3 3 y (by omega) (by omega) ?_)
  have := cSs_mem l y hy
  omega
theorem spec_l11Count_ev : ∀ (c : Nat) (l : List S58), cSs l ≤ c → c ≤ 1000000000 → EvP (fun k => spec_l11Count.f k l) (· = (cSs l : Int)) := by
  intro c
  induction c with
  | zero =>
    intro l hl hc
    have := cSs_length l
    refine EvP.step (fun k => spec_l11Count.f.eq_2 (k := k) ..) (EvP.step (fun k => spec_l11Count.l0.eq_2 (k := k) ..) (EvP.no (by omega) (EvP.ret ?_)))
    omega
  | succ c ih =>
    intro l hl hc
    have hlen := cSs_length l
    have loop : ∀ (r j : Nat) (a : Int), j + r = l.length → 0 ≤ a → a + cSs (l.drop j) ≤ 1000000000 → EvP (fun k => spec_l11Count.l0 k l a (j : Int)) (· = a + cSs (l.drop j)) := by
      intro r
      induction r with
      | zero =>
        intro j a hj h0 h1
        refine EvP.step (fun k => spec_l11Count.l0.eq_2 (k := k) ..) (EvP.no (by omega) (EvP.ret ?_))
        rw [List.drop_eq_nil_of_le (by omega), cSs_nil]
        omega
      | succ r ih2 =>
        intro j a hj h0 h1
        have hlt : j < l.length := by omega
        have hd := cSs_drop l j hlt
        have hm := cSs_mem l _ (List.getElem_mem hlt)
        have hcs := cS_f l[j]
        refine EvP.step (fun k => spec_l11Count.l0.eq_2 (k := k) ..) (EvP.yes (by omega) (EvP.yes (by omega) ?_))
        rw [rdS_nat l j hlt, w64 (n := (j : Int) + 1) (by omega) (by omega)]
        refine EvP.bindEq (ih _ (by omega) (by omega)) (EvP.bindEq (ih _ (by omega) (by omega)) ?_)
        rw [w64 (n := a + 1) (by omega) (by omega), w64 (n := a + 1 + (cSs l[j].f4 : Int)) (by omega) (by omega), w64 (by omega) (by omega)]
        refine (ih2 (j + 1) _ (by omega) (by omega) (by omega)).mono fun b hb => ?_
        omega
    refine EvP.step (fun k => spec_l11Count.f.eq_2 (k := k) ..) ((loop l.length 0 0 (by omega) (by omega) (by rw [List.drop_zero]; omega)).mono fun b hb => ?_)
    rw [List.drop_zero] at hb
    omega
theorem spec_StmtsValid_ev (l : List S58) (hl : cSs l ≤ 1000000000) : EvP (fun k => spec_StmtsValid.f k l) (· = okT 3 l) := by
  unfold spec_StmtsValid.f okT
  refine EvP.bindEq (spec_l11Blocks_ev l hl) (EvP.ite (fun h => EvP.bindEq (spec_l11Count_ev _ l hl (by omega)) (EvP.ret ?_)) (fun h => EvP.ret ?_))
  · rw [h, Bool.true_and]
    exact decide_eq_decide.mpr (by omega)
  · rw [Bool.eq_false_iff.mpr h]
    rfl
theorem okT_iff {boxes : Int} {l : List S58} : okT boxes l = true ↔ okL boxes 3 l = true ∧ cSs l ≤ 16 := by
 unfold okT
 rw [Bool.and_eq_true, decide_eq_true_eq]
mutual
def trS : S113 → S58
 | ⟨a, b, c, e, m, n⟩ => ⟨a, b, c, trE e, trSs m, trSs n⟩
def trSs : List S113 → List S58
 | [] => []
 | x :: xs => trS x :: trSs xs
end
mutual
def cntS : S113 → Nat
 | ⟨_, _, _, e, m, n⟩ => cntE e + cntSs m + cntSs n
def cntSs : List S113 → Nat
 | [] => 0
 | x :: xs => cntS x + 1 + cntSs xs
end
theorem trS_f (x : S113) : trS x = ⟨x.f0, x.f1, x.f2, trE x.f3, trSs x.f4, trSs x.f5⟩ := by
 cases x
 rw [trS]
theorem cntS_f (x : S113) : cntS x = cntE x.f3 + cntSs x.f4 + cntSs x.f5 := by
 cases x
 rw [cntS]
theorem trSs_length : ∀ l : List S113, (trSs l).length = l.length
 | [] => by rw [trSs]; rfl
 | x :: xs => by rw [trSs, List.length_cons, List.length_cons, trSs_length xs]
theorem cntSs_length : ∀ l : List S113, l.length ≤ cntSs l
 | [] => Nat.zero_le _
 | x :: xs => by
  have := cntSs_length xs
  rw [cntSs, List.length_cons]
  omega
theorem cntSs_mem : ∀ (l : List S113) (x : S113), x ∈ l → cntS x ≤ cntSs l
 | y :: ys, x, h => by
  rw [cntSs]
  rcases List.mem_cons.1 h with rfl | h
  ·omega
  ·have := cntSs_mem ys x h
   omega
theorem cntSs_drop (l : List S113) (i : Nat) (h : i < l.length) : cntSs (l.drop i) = cntS l[i] + 1 + cntSs (l.drop (i + 1)) := by
 rw [List.drop_eq_getElem_cons h, cntSs]
theorem ind_LS {P : S113 → Prop} (h : ∀ e : S113, (∀ x ∈ e.f4, P x) → (∀ x ∈ e.f5, P x) → P e) (e : S113) : P e :=
 S113.rec (motive_1 := P) (motive_2 := fun l => ∀ x ∈ l, P x) (fun a b c e m n ih1 ih2 => h ⟨a, b, c, e, m, n⟩ ih1 ih2) (fun x hx => by simp at hx) (fun y ys h1 h2 x hx => by
  rcases List.mem_cons.1 hx with rfl | hx
  ·exact h1
  ·exact h2 x hx) e
theorem cSs_le_of (l : List S113) (he : ∀ x ∈ l, cS (trS x) ≤ cntS x) : cSs (trSs l) ≤ cntSs l := by
 induction l with
 | nil => rw [trSs, cSs]; exact Nat.zero_le _
 | cons a l ih =>
  have h1 := he a List.mem_cons_self
  have h2 := ih (fun x hx => he x (List.mem_cons_of_mem _ hx))
  rw [trSs, cSs, cntSs]
  omega
theorem cS_le (e : S113) : cS (trS e) ≤ cntS e := by
 refine ind_LS (P := fun e => cS (trS e) ≤ cntS e) (fun e i1 i2 => ?_) e
 have h1 := cSs_le_of e.f4 i1
 have h2 := cSs_le_of e.f5 i2
 rw [trS_f, cS_f, cntS_f]
 dsimp only
 omega
theorem cSs_le (l : List S113) : cSs (trSs l) ≤ cntSs l := cSs_le_of l (fun x _ => cS_le x)
theorem rdLS_nat (l : List S113) (i : Nat) (h : i < l.length) : rd_T113 l (i : Int) = l[i] := by
 unfold rd_T113
 rw [Int.toNat_natCast, List.getD_eq_getElem?_getD, List.getElem?_eq_getElem h]
 rfl
theorem szStmtS_l0 (l : List S113) (hl : l.length ≤ 1048576) (he : ∀ x ∈ l, ∀ n : Int, 0 ≤ n → n ≤ 1048576 → EvP (fun k => laws_szStmt.f k x.f0 x.f1 x.f2 x.f3.f0 x.f3.f1 x.f3.f2 x.f4 x.f5 n) (· = lefts (cntS x) n)) :
    ∀ (d j : Nat) (n : Int), j + d = l.length → 0 ≤ n → n ≤ 1048576 → EvP (fun k => laws_szStmtS.l0 k l n (j : Int)) (· = lefts (cntSs (l.drop j) - d) n) := by
  intro d
  induction d with
  | zero =>
    intro j n hj h0 h1
    refine EvP.step (fun k => laws_szStmtS.l0.eq_2 (k := k) ..) (EvP.no (by omega) (EvP.ret ?_))
    rw [List.drop_eq_nil_of_le (by omega)]
    unfold lefts
    rw [if_pos (by simp [cntSs]; omega)]
    simp [cntSs]
  | succ d ih =>
    intro j n hj h0 h1
    have hlt : j < l.length := by omega
    have hc := cntSs_drop l j hlt
    have hd : d ≤ cntSs (l.drop (j + 1)) := by
      have := cntSs_length (l.drop (j + 1))
      rw [List.length_drop] at this
      omega
    refine EvP.step (fun k => laws_szStmtS.l0.eq_2 (k := k) ..) (EvP.yes (by omega) (EvP.yes (by omega) ?_))
    rw [rdLS_nat l j hlt, w64 (n := (j : Int) + 1) (by omega) (by omega)]
    refine EvP.bindEq (he _ (List.getElem_mem hlt) n h0 h1) ?_
    by_cases h2 : (cntS l[j] : Int) ≤ n
    · have e : lefts (cntS l[j]) n = n - cntS l[j] := if_pos h2
      rw [e]
      refine EvP.no (by omega) ?_
      refine (ih (j + 1) (n - cntS l[j]) (by omega) (by omega) (by omega)).mono fun a ha => ?_
      rw [ha]
      unfold lefts
      by_cases h3 : ((cntSs (l.drop (j + 1)) - d : Nat) : Int) ≤ n - cntS l[j]
      · rw [if_pos h3, if_pos (by omega)]
        omega
      · rw [if_neg h3, if_neg (by omega)]
    · have e : lefts (cntS l[j]) n = -1 := if_neg h2
      rw [e]
      refine EvP.yes (by omega) (EvP.ret ?_)
      unfold lefts
      rw [if_neg (by omega)]
theorem szStmtS_of (l : List S113) (hl : l.length ≤ maxLen) (he : ∀ x ∈ l, ∀ n : Int, 0 ≤ n → n ≤ 1048576 → EvP (fun k => laws_szStmt.f k x.f0 x.f1 x.f2 x.f3.f0 x.f3.f1 x.f3.f2 x.f4 x.f5 n) (· = lefts (cntS x) n)) (n : Int) (h0 : 0 ≤ n) (h1 : n ≤ 1048576) :
    EvP (fun k => laws_szStmtS.f k l n) (· = lefts (cntSs l) n) := by
  have hm : maxLen = 9223372036854775807 := rfl
  have hc := cntSs_length l
  refine EvP.step (fun k => laws_szStmtS.f.eq_2 (k := k) ..) ?_
  rw [w64 (by omega) (by omega)]
  refine EvP.ite (fun h => EvP.ret ?_) (fun h => ?_)
  · unfold lefts
    rw [if_neg (by omega)]
  · refine (szStmtS_l0 l (by omega) he l.length 0 (n - l.length) (by omega) (by omega) (by omega)).mono fun a ha => ?_
    rw [ha, List.drop_zero]
    unfold lefts
    by_cases h3 : ((cntSs l - l.length : Nat) : Int) ≤ n - l.length
    · rw [if_pos h3, if_pos (by omega)]
      omega
    · rw [if_neg h3, if_neg (by omega)]
theorem szStmt_ev (e : S113) : WF113 e → ∀ n : Int, 0 ≤ n → n ≤ 1048576 → EvP (fun k => laws_szStmt.f k e.f0 e.f1 e.f2 e.f3.f0 e.f3.f1 e.f3.f2 e.f4 e.f5 n) (· = lefts (cntS e) n) := by
  refine ind_LS (P := fun e => WF113 e → ∀ n : Int, 0 ≤ n → n ≤ 1048576 → EvP (fun k => laws_szStmt.f k e.f0 e.f1 e.f2 e.f3.f0 e.f3.f1 e.f3.f2 e.f4 e.f5 n) (· = lefts (cntS e) n)) (fun e i1 i2 hw n h0 h1 => ?_) e
  cases hw with
  | mk _ _ _ _ he hl4 hx4 hl5 hx5 =>
    refine EvP.step (fun k => laws_szStmt.f.eq_2 (k := k) ..) ?_
    refine EvP.bindEq (szExpr_ev e.f3 he n h0 h1) ?_
    rw [cntS_f]
    by_cases c1 : (cntE e.f3 : Int) ≤ n
    · rw [show lefts (cntE e.f3) n = n - cntE e.f3 from if_pos c1]
      refine EvP.no (by omega) (EvP.bindEq (szStmtS_of e.f4 hl4 (fun x hm => i1 x hm (hx4 x hm)) _ (by omega) (by omega)) ?_)
      by_cases c2 : (cntSs e.f4 : Int) ≤ n - cntE e.f3
      · rw [show lefts (cntSs e.f4) (n - cntE e.f3) = n - cntE e.f3 - cntSs e.f4 from if_pos c2]
        refine EvP.no (by omega) (EvP.bindEq (szStmtS_of e.f5 hl5 (fun x hm => i2 x hm (hx5 x hm)) _ (by omega) (by omega)) ?_)
        by_cases c3 : (cntSs e.f5 : Int) ≤ n - cntE e.f3 - cntSs e.f4
        · rw [show lefts (cntSs e.f5) (n - cntE e.f3 - cntSs e.f4) = n - cntE e.f3 - cntSs e.f4 - cntSs e.f5 from if_pos c3]
          refine EvP.no (by omega) (EvP.ret ?_)
          unfold lefts
          rw [if_pos (by omega)]
          omega
        · rw [show lefts (cntSs e.f5) (n - cntE e.f3 - cntSs e.f4) = -1 from if_neg c3]
          refine EvP.yes (by omega) (EvP.ret ?_)
          unfold lefts
          rw [if_neg (by omega)]
      · rw [show lefts (cntSs e.f4) (n - cntE e.f3) = -1 from if_neg c2]
        refine EvP.yes (by omega) (EvP.ret ?_)
        unfold lefts
        rw [if_neg (by omega)]
    · rw [show lefts (cntE e.f3) n = -1 from if_neg c1]
      refine EvP.yes (by omega) (EvP.ret ?_)
      unfold lefts
      rw [if_neg (by omega)]
theorem szStmtS_ev (l : List S113) (hl : l.length ≤ maxLen) (hx : ∀ x ∈ l, WF113 x) (n : Int) (h0 : 0 ≤ n) (h1 : n ≤ 1048576) : EvP (fun k => laws_szStmtS.f k l n) (· = lefts (cntSs l) n) :=
  szStmtS_of l hl (fun x hm => szStmt_ev x (hx x hm)) n h0 h1
theorem toStmtS_l0 (l : List S113) (hl : l.length ≤ 1048576) (he : ∀ x ∈ l, EvP (fun k => laws_toStmt.f k x) (· = trS x)) :
    ∀ (d j : Nat) (m : List S58), j + d = l.length → m.length = l.length → EvP (fun k => laws_toStmtS.l0 k l m (j : Int)) (· = m.take j ++ trSs (l.drop j)) := by
  intro d
  induction d with
  | zero =>
    intro j m hj hm
    refine EvP.step (fun k => laws_toStmtS.l0.eq_2 (k := k) ..) (EvP.no (by omega) (EvP.ret ?_))
    rw [List.drop_eq_nil_of_le (by omega), List.take_of_length_le (by omega)]
    simp [trSs]
  | succ d ih =>
    intro j m hj hm
    have hlt : j < l.length := by omega
    refine EvP.step (fun k => laws_toStmtS.l0.eq_2 (k := k) ..) (EvP.yes (by omega) (EvP.yes (by omega) ?_))
    rw [rdLS_nat l j hlt, w64 (n := (j : Int) + 1) (by omega) (by omega), Int.toNat_natCast]
    refine EvP.bindEq (he _ (List.getElem_mem hlt)) (EvP.yes (by omega) ?_)
    refine (ih (j + 1) (m.set j (trS l[j])) (by omega) (by rw [List.length_set]; exact hm)).mono fun a ha => ?_
    rw [ha, List.take_succ_eq_append_getElem (by rw [List.length_set]; omega), List.getElem_set_self, List.take_set_of_le (by omega), List.append_assoc, List.drop_eq_getElem_cons hlt, trSs]
    rfl
theorem toStmtS_of (l : List S113) (hl : l.length ≤ 1048576) (he : ∀ x ∈ l, EvP (fun k => laws_toStmt.f k x) (· = trS x)) : EvP (fun k => laws_toStmtS.f k l) (· = trSs l) := by
  refine EvP.step (fun k => laws_toStmtS.f.eq_2 (k := k) ..) (EvP.yes (by omega) ?_)
  exact toStmtS_l0 l hl he l.length 0 _ (by omega) (by rw [List.length_replicate])
theorem toStmt_ev (e : S113) : cntS e ≤ 1048576 → EvP (fun k => laws_toStmt.f k e) (· = trS e) := by
  refine ind_LS (P := fun e => cntS e ≤ 1048576 → EvP (fun k => laws_toStmt.f k e) (· = trS e)) (fun e i1 i2 hc => ?_) e
  rw [cntS_f] at hc
  have h4 := cntSs_length e.f4
  have h5 := cntSs_length e.f5
  refine EvP.step (fun k => laws_toStmt.f.eq_2 (k := k) ..) ?_
  refine EvP.bindEq (toExpr_ev e.f3 (by omega)) (EvP.bindEq (toStmtS_of e.f4 (by omega) (fun x hm => i1 x hm (by have := cntSs_mem e.f4 x hm; omega))) (EvP.bindEq (toStmtS_of e.f5 (by omega) (fun x hm => i2 x hm (by have := cntSs_mem e.f5 x hm; omega))) (EvP.ret ?_)))
  rw [trS_f]
  simp only [tri, etaE]
theorem toStmtS_ev (l : List S113) (hc : cntSs l ≤ 1048576) : EvP (fun k => laws_toStmtS.f k l) (· = trSs l) :=
  toStmtS_of l (by have := cntSs_length l; omega) (fun x hm => toStmt_ev x (by have := cntSs_mem l x hm; omega))
theorem eqStmtS_l0 (m : List S58) (hl : m.length ≤ 1048576) (he : ∀ x ∈ m, EvP (fun k => laws_eqStmt.f k x.f0 x.f1 x.f2 x.f3.f0 x.f3.f1 x.f3.f2 x.f4 x.f5 x.f0 x.f1 x.f2 x.f3.f0 x.f3.f1 x.f3.f2 x.f4 x.f5) (· = true)) :
    ∀ (d j : Nat), j + d = m.length → EvP (fun k => laws_eqStmtS.l0 k m m (j : Int)) (· = true) := by
  intro d
  induction d with
  | zero =>
    intro j hj
    exact EvP.step (fun k => laws_eqStmtS.l0.eq_2 (k := k) ..) (EvP.no (by omega) (EvP.ret rfl))
  | succ d ih =>
    intro j hj
    have hlt : j < m.length := by omega
    refine EvP.step (fun k => laws_eqStmtS.l0.eq_2 (k := k) ..) (EvP.yes (by omega) (EvP.yes (by omega) (EvP.yes (by omega) ?_)))
    rw [rdS_nat m j hlt, w64 (n := (j : Int) + 1) (by omega) (by omega)]
    exact EvP.bindEq (he _ (List.getElem_mem hlt)) (EvP.yes rfl (ih (j + 1) (by omega)))
theorem eqStmtS_of (m : List S58) (hl : m.length ≤ 1048576) (he : ∀ x ∈ m, EvP (fun k => laws_eqStmt.f k x.f0 x.f1 x.f2 x.f3.f0 x.f3.f1 x.f3.f2 x.f4 x.f5 x.f0 x.f1 x.f2 x.f3.f0 x.f3.f1 x.f3.f2 x.f4 x.f5) (· = true)) : EvP (fun k => laws_eqStmtS.f k m m) (· = true) :=
  EvP.step (fun k => laws_eqStmtS.f.eq_2 (k := k) ..) (EvP.yes rfl (eqStmtS_l0 m hl he m.length 0 (by omega)))
inductive ShortS : S58 → Prop
 | mk (x : S58) (he : Short x.f3) (h4 : x.f4.length ≤ 1048576) (g4 : ∀ y ∈ x.f4, ShortS y) (h5 : x.f5.length ≤ 1048576) (g5 : ∀ y ∈ x.f5, ShortS y) : ShortS x
theorem eqStmt_short (e : S58) (h : ShortS e) : EvP (fun k => laws_eqStmt.f k e.f0 e.f1 e.f2 e.f3.f0 e.f3.f1 e.f3.f2 e.f4 e.f5 e.f0 e.f1 e.f2 e.f3.f0 e.f3.f1 e.f3.f2 e.f4 e.f5) (· = true) := by
  induction h with
  | mk x he h4 g4 h5 g5 i4 i5 =>
    refine EvP.step (fun k => laws_eqStmt.f.eq_2 (k := k) ..) (EvP.yes rfl (EvP.yes rfl (EvP.yes rfl ?_)))
    exact EvP.bindEq (eqExpr_short _ he) (EvP.yes rfl (EvP.bindEq (eqStmtS_of x.f4 h4 i4) (EvP.yes rfl (EvP.bindEq (eqStmtS_of x.f5 h5 i5) (EvP.yes rfl (EvP.ret rfl))))))
theorem trSs_mem {l : List S113} {y : S58} (h : y ∈ trSs l) : ∃ x ∈ l, y = trS x := by
 induction l with
 | nil => simp [trSs] at h
 | cons a l ih =>
  rw [trSs] at h
  rcases List.mem_cons.1 h with rfl | h
  ·exact ⟨a, List.mem_cons_self, rfl⟩
  ·obtain ⟨x, hx, e⟩ := ih h
   exact ⟨x, List.mem_cons_of_mem _ hx, e⟩
theorem short_trS (e : S113) : cntS e ≤ 1048576 → ShortS (trS e) := by
 refine ind_LS (P := fun e => cntS e ≤ 1048576 → ShortS (trS e)) (fun e i1 i2 hc => ?_) e
 rw [cntS_f] at hc
 have h4 := cntSs_length e.f4
 have h5 := cntSs_length e.f5
 rw [trS_f]
 refine .mk _ (short_trE e.f3 (by omega)) (by rw [trSs_length]; omega) (fun y hy => ?_) (by rw [trSs_length]; omega) (fun y hy => ?_)
 ·obtain ⟨x, hx, rfl⟩ := trSs_mem hy
  exact i1 x hx (by have := cntSs_mem e.f4 x hx; omega)
 ·obtain ⟨x, hx, rfl⟩ := trSs_mem hy
  exact i2 x hx (by have := cntSs_mem e.f5 x hx; omega)
theorem eqStmtS_short (l : List S113) (hc : cntSs l ≤ 1048576) : EvP (fun k => laws_eqStmtS.f k (trSs l) (trSs l)) (· = true) :=
  eqStmtS_of _ (by rw [trSs_length]; have := cntSs_length l; omega) (fun y hy => by
    obtain ⟨x, hx, rfl⟩ := trSs_mem hy
    exact eqStmt_short _ (short_trS x (by have := cntSs_mem l x hx; omega)))
end Go.Proofs.YtjamfkpgmkhbnaaGreatDoor.PA


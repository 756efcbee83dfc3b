/- Part 3. -/
import Derived.Test.YtjamfkpgmkhbnaaDoorQFnExactExprText1
import Derived.Laws.BitsLemmas
import Derived.Lib.Join
import Derived.Lib.ItoaNum
import Derived.Lib.Bytealg
import Derived.KernelRfl
import Derived.Test.YtjamfkpgmkhbnaaDoorRows
import Derived.ProofKit
import Derived.LaidMore
import Derived.Stop.Joined
import Derived.Stop.LaidErr
import Derived.MakeChecks
import Derived.Lib.LaidTab
import Derived.ChangeOld
import Derived.ChangeVars
set_option maxHeartbeats 8000000
set_option maxRecDepth 100000
namespace Go.Proofs.YtjamfkpgmkhbnaaDoor.PA
open Go.RowKit Go.Proofs.YtjamfkpgmkhbnaaDoorW.PrintWords Go.Proofs.YtjamfkpgmkhbnaaDoorW.PrintLast Go.Proofs.YtjamfkpgmkhbnaaDoorW.PrintMore
attribute [local go_sem] max2_int min2_int max_two min_two max_three min_three max_four min_four
set_option linter.unusedVariables false
set_option linter.unusedSimpArgs false
theorem strings_Join.calls (A0 : Option Addr) (c0 : Nat) (l0 : List ByteArray) (a1 : ByteArray) (r : ByteArray) (w : World) (hr0 : Kd.C Kd.string w A0 l0.length l0) (hc0 : l0.length ≤ c0) (h : strings_Join.f l0 a1 = some r) :
  Calls Tryd.prog 38 #[.slice A0 l0.length c0, .string a1] w fun e w' => e = .returned (.string r) ∧ Below w.heap.size w w' := by
 unfold strings_Join.f at h
 by_cases h1 : l0.length ≤ 140737488355328
 case neg => rw [if_neg h1] at h; cases h
 rw [if_pos h1] at h
 by_cases h2 : (joinB l0 a1).length ≤ 140737488355328
 case neg => rw [if_neg h2] at h; cases h
 rw [if_pos h2] at h
 obtain rfl := Option.some.inj h
 cases l0 with
 | nil =>
  refine (Tryd.strings_Join_none A0 c0 a1 w).mono ?_
  rintro e w' ⟨rfl, rfl⟩
  exact ⟨rfl, Below.refl _ _⟩
 | cons x xs =>
  obtain ⟨ad, rfl, hc⟩ := hr0.2.2 (by simp)
  have hcell : ∀ (j : Nat) y, (x :: xs)[j]? = some y → w.cell? (ad.add j) = some (.string y) := by
   intro j y hj
   obtain ⟨c, hcl, hK, hcc⟩ := hc j y hj
   have hK' : c = [.string y] := hK
   subst hK'
   have := hcc 0 _ rfl
   simpa [Kd.string, Kd.scalar] using this
  obtain ⟨b, o, s⟩ := ad
  have h0 := hcell 0 x rfl
  have hs : s = none := by
   cases s with
   | none => rfl
   | some v => simp [World.cell?, Addr.add] at h0; split at h0 <;> simp at h0
  subst hs
  have hlt := World.block_lt_of_cell? w _ h0
  refine (Tryd.strings_Join b o c0 (x :: xs) a1 w (fun j y hj => by have h_ := hcell j y hj; cases j <;> simpa [Addr.add] using h_) hlt h1 hc0 h2).mono ?_
  rintro e w' ⟨rfl, hb⟩
  exact ⟨rfl, hb⟩
theorem impl_TokensText.mono_l : ∀ k, (∀ y0 y1 y2 y3, LeO (impl_TokensText.l0 k y0 y1 y2 y3) (impl_TokensText.l0 (k + 1) y0 y1 y2 y3))
 | 0 => fun _ _ _ _ r h => by simp [impl_TokensText.l0] at h
 | k + 1 => by
  have ih0 := impl_TokensText.mono_l k
  ·intro y0 y1 y2 y3
   unfold impl_TokensText.l0
   have m0 := @impl_TokenValid.mono
   exact mo_
theorem impl_TokensText.mono : ∀ a0 k, LeO (impl_TokensText.f k a0) (impl_TokensText.f (k + 1) a0) := by
 intro a0 k
 have ih0 := impl_TokensText.mono_l k
 unfold impl_TokensText.f
 have m0 := @impl_TokenValid.mono
 exact mo_
theorem impl_TokensText.calls (k : Nat) (A0 : Option Addr) (c0 : Nat) (l0 : List ByteArray) (r : ByteArray) (w : World) (hr0 : Kd.C Kd.string w A0 l0.length l0) (hc0 : l0.length ≤ c0) (h : impl_TokensText.f k l0 = some r) :
  Calls Tryd.prog 21 #[.slice A0 l0.length c0] w fun e w' => e = .returned (.string r) ∧ Below w.heap.size w w' := by
 have HR0 := am hr0
 have HC0 := am hc0
 clear hr0 hc0
 have HB := am (Below.refl w.heap.size w)
 have H : (impl_TokensText.l0 k l0 l0 (l0.length : Int) 0) = some r := h
 clear h
 have H' := am H
 clear H
 go_enter Tryd.func21, Tryd.ntmps21
 go_wp2
 go_loopg [7] k (fun kq v7 w' => ∃ (x7_1 : Int), v7 = .int .i64 x7_1 ∧ Aside0 (impl_TokensText.l0 kq l0 l0 (l0.length : Int) x7_1 = some r) ∧ Aside0 (kq ≤ k) ∧ Aside0 (Below w.heap.size w w'))
 case atStart => exact ⟨(0), sd_, H', ⟨Nat.le_refl _⟩, ⟨ab2_⟩⟩
 case round =>
  clear H'
  obtain ⟨x7_1, rfl, HA, HK1, HB⟩ := hrel
  cases gk with
  | zero => exact absurd HA.out (by simp [impl_TokensText.l0])
  | succ k1 =>
   have H := HA.out
   clear HA
   simp only [impl_TokensText.l0] at H
   by_cases c2 : x7_1 < (l0.length : Int)
   ·rw [if_pos c2] at H
    have c2b0 : decide (x7_1 < (l0.length : Int)) = true := decide_eq_true c2
    clear c2
    by_cases c3 : 0 ≤ x7_1
    ·rw [if_pos c3] at H
     have c3b0 : decide (0 ≤ x7_1) = true := decide_eq_true c3
     clear c3
     by_cases c4 : x7_1 < (l0.length : Int)
     ·rw [if_pos c4] at H
      have c4b0 : decide (x7_1 < (l0.length : Int)) = true := decide_eq_true c4
      clear c4
      obtain ⟨t20, A5, H⟩ := bsa H
      (try dsimp only at H)
      by_cases c6 : t20 = true
      ·subst c6
       rw [if_pos rfl] at H
       have H' := am H
       clear H
       have p22 : 0 ≤ (x7_1 : Int) := of_decide_eq_true asm_
       have q22 : x7_1 < (l0.length : Int) := of_decide_eq_true asm_
       obtain ⟨ad22, e22, hx22_0⟩ := Kd.at_string HR0.out x7_1 p22 q22
       cases e22
       replace hx22_0 := (HB.out.cell (World.block_lt_of_cell? w _ hx22_0)).trans hx22_0
       replace p22 := eq_true p22
       replace q22 := eq_true q22
       go_wp2_with (first | ((with_reducible refine gate_callee (f := 37) rfl ?_); refine gl_ 12 Tryd.func37 #[.string (rdOf ByteArray.empty l0 x7_1)] ?_; (with_reducible refine (impl_TokenValid.calls k1 (rdOf ByteArray.empty l0 x7_1) true _ A5.out).mono ?_); rintro e w7 ⟨rfl, hb⟩; refine ⟨_, rfl, ?_⟩; replace HB := am (below_step ab2_ hb); (try clear hb)))
       go_roundg k1
       case measure => have := HK1.out; omega
       case rel => exact ⟨(wrap64 (x7_1 + 1)), sd_, H', ⟨by have := HK1.out; omega⟩, ⟨ab2_⟩⟩
      replace c6 := Bool.eq_false_iff.mpr c6
      subst c6
      rw [if_neg (show ¬ (false = true) by decide)] at H
      obtain rfl := Option.some.inj H
      have p22 : 0 ≤ (x7_1 : Int) := of_decide_eq_true asm_
      have q22 : x7_1 < (l0.length : Int) := of_decide_eq_true asm_
      obtain ⟨ad22, e22, hx22_0⟩ := Kd.at_string HR0.out x7_1 p22 q22
      cases e22
      replace hx22_0 := (HB.out.cell (World.block_lt_of_cell? w _ hx22_0)).trans hx22_0
      replace p22 := eq_true p22
      replace q22 := eq_true q22
      go_wp2_with (first | ((with_reducible refine gate_callee (f := 37) rfl ?_); refine gl_ 12 Tryd.func37 #[.string (rdOf ByteArray.empty l0 x7_1)] ?_; (with_reducible refine (impl_TokenValid.calls k1 (rdOf ByteArray.empty l0 x7_1) false _ A5.out).mono ?_); rintro e w8 ⟨rfl, hb⟩; refine ⟨_, rfl, ?_⟩; replace HB := am (below_step ab2_ hb); (try clear hb)))
      go_ret
      exact ⟨rr_, ab2_⟩
     rw [if_neg c4] at H
     exact absurd H (by simp)
    rw [if_neg c3] at H
    exact absurd H (by simp)
   rw [if_neg c2] at H
   have c2b0 : decide (x7_1 < (l0.length : Int)) = false := decide_eq_false c2
   clear c2
   obtain ⟨t23, A9, H⟩ := bsa H
   (try dsimp only at H)
   obtain rfl := Option.some.inj H
   go_wp2_with (first | ((with_reducible refine gate_callee (f := 38) rfl ?_); refine gl_ 16 Tryd.func38 #[.slice A0 l0.length c0, .string (⟨#[32]⟩ : ByteArray)] ?_; (with_reducible refine (strings_Join.calls _ _ l0 (⟨#[32]⟩ : ByteArray) t23 _ (aC_ (Kd.C_below HR0.out HB.out)) HC0.out A9.out).mono ?_); rintro e w10 ⟨rfl, hb⟩; refine ⟨_, rfl, ?_⟩; replace HB := am (below_step ab2_ hb); (try clear hb)))
   go_ret
   exact ⟨rr_, ab2_⟩
theorem impl_OpLevel.mono_l : ∀ k, (∀ y0 y1, LeO (impl_OpLevel.j0 k y0 y1) (impl_OpLevel.j0 (k + 1) y0 y1)) ∧ (∀ y0 y1, LeO (impl_OpLevel.j1 k y0 y1) (impl_OpLevel.j1 (k + 1) y0 y1))
 | 0 => ⟨fun _ _ r h => by simp [impl_OpLevel.j0] at h, fun _ _ r h => by simp [impl_OpLevel.j1] at h⟩
 | k + 1 => by
  obtain ⟨ih0, ih1⟩ := impl_OpLevel.mono_l k
  refine ⟨?_, ?_⟩
  ·intro y0 y1
   unfold impl_OpLevel.j0
   exact mo_
  ·intro y0 y1
   unfold impl_OpLevel.j1
   exact mo_
theorem impl_OpLevel.mono : ∀ a0 k, LeO (impl_OpLevel.f k a0) (impl_OpLevel.f (k + 1) a0) := by
 intro a0 k
 obtain ⟨ih0, ih1⟩ := impl_OpLevel.mono_l k
 unfold impl_OpLevel.f
 exact mo_
theorem impl_OpLevel.calls (k : Nat) (a0 : Int) (r : Int) (w : World) (h : impl_OpLevel.f k a0 = some r) :
  Calls Tryd.prog 41 #[.int .i64 a0] w fun e w' => e = .returned (.int .i64 r) ∧ Drawn0 w w' := by
 have H : (if a0 = 1 then (some 1) else (if a0 = 2 then (some 2) else (if a0 = 3 then (some 3) else (if a0 = 4 then (some 4) else (if a0 = 5 then (some 5) else (if a0 = 6 then (impl_OpLevel.j0 k a0 (a0 == 6)) else (impl_OpLevel.j0 k a0 (a0 == 7)))))))) = some r := h
 clear h
 by_cases c2 : a0 = 1
 ·rw [if_pos c2] at H
  have c2b0 : (a0 == 1) = true := beq_iff_eq.mpr c2
  have c2b1 : (a0 != 1) = false := bne_eq_false_iff_eq.mpr c2
  clear c2
  obtain rfl := Option.some.inj H
  go_enter Tryd.func41, Tryd.ntmps41
  go_wp2
  go_ret
  exact ⟨sd_, ab6_⟩
 rw [if_neg c2] at H
 have c2b0 : (a0 == 1) = false := beq_eq_false_iff_ne.mpr c2
 have c2b1 : (a0 != 1) = true := bne_iff_ne.mpr c2
 by_cases c3 : a0 = 2
 ·rw [if_pos c3] at H
  have c3b0 : (a0 == 2) = true := beq_iff_eq.mpr c3
  have c3b1 : (a0 != 2) = false := bne_eq_false_iff_eq.mpr c3
  clear c3
  obtain rfl := Option.some.inj H
  go_enter Tryd.func41, Tryd.ntmps41
  go_wp2
  go_ret
  exact ⟨sd_, ab6_⟩
 rw [if_neg c3] at H
 have c3b0 : (a0 == 2) = false := beq_eq_false_iff_ne.mpr c3
 have c3b1 : (a0 != 2) = true := bne_iff_ne.mpr c3
 by_cases c4 : a0 = 3
 ·rw [if_pos c4] at H
  have c4b0 : (a0 == 3) = true := beq_iff_eq.mpr c4
  have c4b1 : (a0 != 3) = false := bne_eq_false_iff_eq.mpr c4
  clear c4
  obtain rfl := Option.some.inj H
  go_enter Tryd.func41, Tryd.ntmps41
  go_wp2
  go_ret
  exact ⟨sd_, ab6_⟩
 rw [if_neg c4] at H
 have c4b0 : (a0 == 3) = false := beq_eq_false_iff_ne.mpr c4
 have c4b1 : (a0 != 3) = true := bne_iff_ne.mpr c4
 by_cases c5 : a0 = 4
 ·rw [if_pos c5] at H
  have c5b0 : (a0 == 4) = true := beq_iff_eq.mpr c5
  have c5b1 : (a0 != 4) = false := bne_eq_false_iff_eq.mpr c5
  clear c5
  obtain rfl := Option.some.inj H
  go_enter Tryd.func41, Tryd.ntmps41
  go_wp2
  go_ret
  exact ⟨sd_, ab6_⟩
 rw [if_neg c5] at H
 have c5b0 : (a0 == 4) = false := beq_eq_false_iff_ne.mpr c5
 have c5b1 : (a0 != 4) = true := bne_iff_ne.mpr c5
 by_cases c6 : a0 = 5
 ·rw [if_pos c6] at H
  have c6b0 : (a0 == 5) = true := beq_iff_eq.mpr c6
  have c6b1 : (a0 != 5) = false := bne_eq_false_iff_eq.mpr c6
  clear c6
  obtain rfl := Option.some.inj H
  go_enter Tryd.func41, Tryd.ntmps41
  go_wp2
  go_ret
  exact ⟨sd_, ab6_⟩
 rw [if_neg c6] at H
 have c6b0 : (a0 == 5) = false := beq_eq_false_iff_ne.mpr c6
 have c6b1 : (a0 != 5) = true := bne_iff_ne.mpr c6
 have HC7 := am H
 clear H
 go_enter Tryd.func41, Tryd.ntmps41
 go_upto_if 14 with (fail)
 go_cut [14] (fun v14 wc => ∃ (kq : Nat) (x14_6 : Bool), v14 = .bool x14_6 ∧ Aside0 (impl_OpLevel.j0 kq a0 x14_6 = some r) ∧ Aside0 (kq ≤ k) ∧ Drawn0 w wc)
 case first =>
  have H := HC7.out
  clear HC7
  by_cases c8 : a0 = 6
  ·rw [if_pos c8] at H
   have c8b0 : (a0 == 6) = true := beq_iff_eq.mpr c8
   have c8b1 : (a0 != 6) = false := bne_eq_false_iff_eq.mpr c8
   clear c8
   (first | rw [c8b0] | (simp only [i64_w, i32_w]; rw [c8b0]) | skip)
   have H' := am H
   clear H
   go_wp2
   go_meet
   case rel => exact ⟨_, ((a0 == 6)), sd_, H', ⟨by first | omega | exact Nat.le_refl _⟩, ab6_⟩
  rw [if_neg c8] at H
  have c8b0 : (a0 == 6) = false := beq_eq_false_iff_ne.mpr c8
  have c8b1 : (a0 != 6) = true := bne_iff_ne.mpr c8
  (first | rw [c8b0] | (simp only [i64_w, i32_w]; rw [c8b0]) | skip)
  have H' := am H
  clear H
  go_wp2
  go_meet
  case rel => exact ⟨_, ((a0 == 7)), sd_, H', ⟨by first | omega | exact Nat.le_refl _⟩, ab6_⟩
 case rest =>
  clear HC7
  try clear c2
  try clear c2b0
  try clear c2b1
  try clear c3
  try clear c3b0
  try clear c3b1
  try clear c4
  try clear c4b0
  try clear c4b1
  try clear c5
  try clear c5b0
  try clear c5b1
  try clear c6
  try clear c6b0
  try clear c6b1
  obtain ⟨kq, x14_6, rfl, HA, HJ6, ⟨mc6, rfl⟩⟩ := hcut
  cases kq with
  | zero => exact absurd HA.out (by simp [impl_OpLevel.j0])
  | succ kj6 =>
   have H := HA.out
   clear HA
   simp only [impl_OpLevel.j0] at H
   by_cases c9 : x14_6 = true
   ·subst c9
    rw [if_pos rfl] at H
    obtain rfl := Option.some.inj H
    go_wp2
    go_ret
    exact ⟨sd_, ab6_⟩
   replace c9 := Bool.eq_false_iff.mpr c9
   subst c9
   rw [if_neg (show ¬ (false = true) by decide)] at H
   have HC10 := am H
   clear H
   go_upto_if 17 with (fail)
   go_cut [17] (fun v17 wc => ∃ (kq : Nat) (x17_9 : Bool), v17 = .bool x17_9 ∧ Aside0 (impl_OpLevel.j1 kq a0 x17_9 = some r) ∧ Aside0 (kq ≤ kj6) ∧ Drawn0 w wc)
   case first =>
    have H := HC10.out
    clear HC10
    by_cases c11 : a0 = 8
    ·rw [if_pos c11] at H
     have c11b0 : (a0 == 8) = true := beq_iff_eq.mpr c11
     have c11b1 : (a0 != 8) = false := bne_eq_false_iff_eq.mpr c11
     clear c11
     (first | rw [c11b0] | (simp only [i64_w, i32_w]; rw [c11b0]) | skip)
     have H' := am H
     clear H
     go_wp2
     go_meet
     case rel => exact ⟨_, ((a0 == 8)), sd_, H', ⟨by have := HJ6.out; first | omega | exact Nat.le_refl _⟩, ab6_⟩
    rw [if_neg c11] at H
    have c11b0 : (a0 == 8) = false := beq_eq_false_iff_ne.mpr c11
    have c11b1 : (a0 != 8) = true := bne_iff_ne.mpr c11
    (first | rw [c11b0] | (simp only [i64_w, i32_w]; rw [c11b0]) | skip)
    have H' := am H
    clear H
    go_wp2
    go_meet
    case rel => exact ⟨_, ((a0 == 9)), sd_, H', ⟨by have := HJ6.out; first | omega | exact Nat.le_refl _⟩, ab6_⟩
   case rest =>
    clear HC10
    try clear c2
    try clear c2b0
    try clear c2b1
    try clear c3
    try clear c3b0
    try clear c3b1
    try clear c4
    try clear c4b0
    try clear c4b1
    try clear c5
    try clear c5b0
    try clear c5b1
    try clear c6
    try clear c6b0
    try clear c6b1
    try clear c9
    obtain ⟨kq, x17_9, rfl, HA, HJ9, ⟨mc9, rfl⟩⟩ := hcut
    cases kq with
    | zero => exact absurd HA.out (by simp [impl_OpLevel.j1])
    | succ kj9 =>
     have H := HA.out
     clear HA
     simp only [impl_OpLevel.j1] at H
     by_cases c12 : x17_9 = true
     ·subst c12
      rw [if_pos rfl] at H
      obtain rfl := Option.some.inj H
      go_wp2
      go_ret
      exact ⟨sd_, ab6_⟩
     replace c12 := Bool.eq_false_iff.mpr c12
     subst c12
     rw [if_neg (show ¬ (false = true) by decide)] at H
     by_cases c13 : a0 = 10
     ·rw [if_pos c13] at H
      have c13b0 : (a0 == 10) = true := beq_iff_eq.mpr c13
      have c13b1 : (a0 != 10) = false := bne_eq_false_iff_eq.mpr c13
      clear c13
      obtain rfl := Option.some.inj H
      go_wp2
      go_ret
      exact ⟨sd_, ab6_⟩
     rw [if_neg c13] at H
     have c13b0 : (a0 == 10) = false := beq_eq_false_iff_ne.mpr c13
     have c13b1 : (a0 != 10) = true := bne_iff_ne.mpr c13
     by_cases c14 : a0 = 11
     ·rw [if_pos c14] at H
      have c14b0 : (a0 == 11) = true := beq_iff_eq.mpr c14
      have c14b1 : (a0 != 11) = false := bne_eq_false_iff_eq.mpr c14
      clear c14
      obtain rfl := Option.some.inj H
      go_wp2
      go_ret
      exact ⟨sd_, ab6_⟩
     rw [if_neg c14] at H
     have c14b0 : (a0 == 11) = false := beq_eq_false_iff_ne.mpr c14
     have c14b1 : (a0 != 11) = true := bne_iff_ne.mpr c14
     by_cases c15 : a0 = 12
     ·rw [if_pos c15] at H
      have c15b0 : (a0 == 12) = true := beq_iff_eq.mpr c15
      have c15b1 : (a0 != 12) = false := bne_eq_false_iff_eq.mpr c15
      clear c15
      obtain rfl := Option.some.inj H
      go_wp2
      go_ret
      exact ⟨sd_, ab6_⟩
     rw [if_neg c15] at H
     have c15b0 : (a0 == 12) = false := beq_eq_false_iff_ne.mpr c15
     have c15b1 : (a0 != 12) = true := bne_iff_ne.mpr c15
     obtain rfl := Option.some.inj H
     go_wp2
     go_ret
     exact ⟨sd_, ab6_⟩
theorem impl_operandTokens.mono_all : ∀ k, (∀ y0 y1 y2 y3 y4, LeO (impl_operandTokens.f k y0 y1 y2 y3 y4) (impl_operandTokens.f (k + 1) y0 y1 y2 y3 y4)) ∧ (∀ y0 y1 y2 y3 y4, LeO (impl_operandTokens.j0 k y0 y1 y2 y3 y4) (impl_operandTokens.j0 (k + 1) y0 y1 y2 y3 y4)) ∧ (∀ y0 y1 y2 y3, LeO (impl_exprTokens.f k y0 y1 y2 y3) (impl_exprTokens.f (k + 1) y0 y1 y2 y3))
 | 0 => ⟨fun _ _ _ _ _ r h => by simp [impl_operandTokens.f] at h, fun _ _ _ _ _ r h => by simp [impl_operandTokens.j0] at h, fun _ _ _ _ r h => by simp [impl_exprTokens.f] at h⟩
 | k + 1 => by
  obtain ⟨ih0, ih1, ih2⟩ := impl_operandTokens.mono_all k
  refine ⟨?_, ?_, ?_⟩
  ·intro y0 y1 y2 y3 y4
   unfold impl_operandTokens.f
   have m0 := @impl_OpLevel.mono
   exact mo_
  ·intro y0 y1 y2 y3 y4
   unfold impl_operandTokens.j0
   have m0 := @impl_OpLevel.mono
   exact mo_
  ·intro y0 y1 y2 y3
   unfold impl_exprTokens.f
   have m0 := @impl_OpLevel.mono
   exact mo_
theorem impl_operandTokens.mono : ∀ a0 a1 a2 a3 a4 k, LeO (impl_operandTokens.f k a0 a1 a2 a3 a4) (impl_operandTokens.f (k + 1) a0 a1 a2 a3 a4) := by
 intro a0 a1 a2 a3 a4 k
 obtain ⟨ih0, ih1, ih2⟩ := impl_operandTokens.mono_all k
 exact ih0 a0 a1 a2 a3 a4
theorem impl_exprTokens.mono : ∀ a0 a1 a2 a3 k, LeO (impl_exprTokens.f k a0 a1 a2 a3) (impl_exprTokens.f (k + 1) a0 a1 a2 a3) := by
 intro a0 a1 a2 a3 k
 obtain ⟨ih0, ih1, ih2⟩ := impl_operandTokens.mono_all k
 exact ih2 a0 a1 a2 a3
abbrev impl_operandTokens.CallsAt (k : Nat) : Prop := ∀ (a0_0 : Int) (a0_1 : Int) (A0_2 : Option Addr) (c0_2 : Nat) (l0_2 : List (S29)) (a1 : Int) (P2_ : Nat → Prop) (u20_ : Value) (l2 : List ByteArray) (r : List ByteArray) (w0 w : World) (hB : Below w0.heap.size w0 w) (hr0_2 : ∀ W_, Kept w W_ (fun k_ => P2_ k_) → Kd.C k29 W_ A0_2 l0_2.length l0_2) (hc0_2 : l0_2.length ≤ c0_2) (ho2 : Kd.R Kd.string 9 w w0.heap.size P2_ u20_ l2) (ht_ : Tab w0) (h : impl_operandTokens.f k a0_0 a0_1 l0_2 a1 l2 = some r),
  Calls Tryd.prog 42 #[.agg #[.int .i64 a0_0, .int .i64 a0_1, .slice A0_2 l0_2.length c0_2], .int .i64 a1, u20_] w fun e w' => ∃ v0_ : Value, e = .returned (v0_) ∧ Kd.R Kd.string 9 w' w0.heap.size (fun k_ => (P2_ k_ ∨ w.heap.size ≤ k_)) v0_ r ∧ Below w0.heap.size w0 w' ∧ Kept w w' (fun k_ => P2_ k_)
abbrev impl_exprTokens.CallsAt (k : Nat) : Prop := ∀ (a0_0 : Int) (a0_1 : Int) (A0_2 : Option Addr) (c0_2 : Nat) (l0_2 : List (S29)) (P1_ : Nat → Prop) (u20_ : Value) (l1 : List ByteArray) (r : List ByteArray) (w0 w : World) (hB : Below w0.heap.size w0 w) (hr0_2 : ∀ W_, Kept w W_ (fun k_ => P1_ k_) → Kd.C k29 W_ A0_2 l0_2.length l0_2) (hc0_2 : l0_2.length ≤ c0_2) (ho1 : Kd.R Kd.string 9 w w0.heap.size P1_ u20_ l1) (ht_ : Tab w0) (h : impl_exprTokens.f k a0_0 a0_1 l0_2 l1 = some r),
  Calls Tryd.prog 22 #[.agg #[.int .i64 a0_0, .int .i64 a0_1, .slice A0_2 l0_2.length c0_2], u20_] w fun e w' => ∃ v0_ : Value, e = .returned (v0_) ∧ Kd.R Kd.string 9 w' w0.heap.size (fun k_ => (P1_ k_ ∨ w.heap.size ≤ k_)) v0_ r ∧ Below w0.heap.size w0 w' ∧ Kept w w' (fun k_ => P1_ k_)
theorem impl_operandTokens.step (k : Nat) (ih_impl_operandTokens : ∀ m, m < k → impl_operandTokens.CallsAt m) (ih_impl_exprTokens : ∀ m, m < k → impl_exprTokens.CallsAt m) : impl_operandTokens.CallsAt k := by
 intro a0_0 a0_1 A0_2 c0_2 l0_2 a1 P2_ u28_ l2 r w0 w hB hr0_2 hc0_2 ho2 ht_ h
 cases k with
 | zero => exact absurd h (by simp [impl_operandTokens.f])
 | succ k =>
 simp only [impl_operandTokens.f] at h
 have hu29 := Tryd.underlying29
 have HR0_2 := am hr0_2
 have HC0_2 := am hc0_2
 clear hr0_2 hc0_2
 have HO2 := am (show Kd.R Kd.string 9 w w0.heap.size (fun k_ => (P2_ k_ ∨ w.heap.size ≤ k_)) u28_ l2 from Kd.R_mono ho2 (fun k_ hk => (.inl hk)))
 have HK := am (Kept.refl w (fun k_ => P2_ k_))
 have HW0 := am hB.size
 have HB := am hB
 clear hB
 have H : ((impl_OpValid.f a0_0).bind fun t30 => (if t30 = true then ((impl_OpLevel.f k a0_0).bind fun t31 => (impl_operandTokens.j0 k l2 (decide (t31 ≥ a1)) a0_0 a0_1 l0_2)) else (impl_operandTokens.j0 k l2 true a0_0 a0_1 l0_2))) = some r := h
 clear h
 have HC4 := am H
 clear H
 go_enter Tryd.func42, Tryd.ntmps42
 go_upto_region 1 with (first | ((with_reducible refine gate_dst (N := 3) rfl ?_); refine box_event rfl (N := 3) rfl (cs := #[.int .i64 a0_0, .int .i64 a0_1, .slice A0_2 l0_2.length c0_2]) (t := 29) rn_ ?_; intro gb33 hg w5 hbox hb; replace HO2 := am (Kd.R_below (aR_ HO2.out) hb); have BK33 := am (hbox); have GW33 := am ((by rw [hg]; exact (by first | exact HK.out.1 | exact (show Kept w _ (fun k_ => P2_ k_) from ab34_).1) : w.heap.size ≤ gb33)); replace HK := am (Kept.below (S := (fun k_ => P2_ k_)) ab34_ hb); have GE33 := am ((by rw [hg]; exact (below_size ab2_) : w0.heap.size ≤ gb33)); replace HB := am (below_step ab2_ hb); clear hb hbox hg))
 (try simp only [Act.put, List.setIfInBounds_toArray, List.set_cons_zero, List.set_cons_succ])
 go_cut [17] (fun v17 wc => ∃ (kq : Nat) (x17_3 : Bool), v17 = .bool x17_3 ∧ Aside0 (impl_operandTokens.j0 kq l2 x17_3 a0_0 a0_1 l0_2 = some r) ∧ Aside0 (kq ≤ k) ∧ Aside0 (Kd.R Kd.string 9 wc w0.heap.size (fun k_ => (P2_ k_ ∨ w.heap.size ≤ k_)) u28_ l2) ∧ Aside0 (wc.heap[gb33]? = some (.cells #[.int .i64 a0_0, .int .i64 a0_1, (.slice A0_2 l0_2.length c0_2)] 29 (0, 0))) ∧ Aside0 (Kept w wc (fun k_ => P2_ k_)) ∧ Aside0 (Below w0.heap.size w0 wc))
 case first =>
  have H := HC4.out
  clear HC4
  obtain ⟨t30, A6, H⟩ := bsa H
  (try dsimp only at H)
  by_cases c7 : t30 = true
  ·subst c7
   rw [if_pos rfl] at H
   obtain ⟨t31, A8, H⟩ := bsa H
   (try dsimp only at H)
   have H' := am H
   clear H
   obtain ⟨hcz9_0, hcz9_1, hcz9_2, hfz9_0, hfz9_1, hfz9_2⟩ := bcf3_ BK33.out
   go_wp2_with (first | ((with_reducible refine gate_callee (f := 57) rfl ?_); refine gl_ 9 Tryd.func57 #[.int .i64 a0_0] ?_; (with_reducible refine (impl_OpValid.calls a0_0 true _ A6.out).mono ?_); rintro e w' ⟨rfl, ⟨nd, rfl⟩⟩; refine ⟨_, rfl, ?_⟩) | (go_at_call 41; (with_reducible refine (impl_OpLevel.calls k a0_0 t31 _ A8.out).mono ?_); rintro e w' ⟨rfl, ⟨nd, rfl⟩⟩))
   go_meet
   case rel => exact ⟨_, (decide (t31 ≥ a1)), sd_, H', ⟨by first | omega | exact Nat.le_refl _⟩, ⟨aRw_ HO2.out⟩, ⟨by (with_reducible repeat (first | refine blk_drewN ?_ _ | refine blk_drew ?_ | refine blk_alloc ?_ _)); exact BK33.out⟩, ⟨ab22_⟩, ⟨ab27_⟩⟩
  replace c7 := Bool.eq_false_iff.mpr c7
  subst c7
  rw [if_neg (show ¬ (false = true) by decide)] at H
  have H' := am H
  clear H
  obtain ⟨hcz10_0, hcz10_1, hcz10_2, hfz10_0, hfz10_1, hfz10_2⟩ := bcf3_ BK33.out
  go_wp2_with (first | ((with_reducible refine gate_callee (f := 57) rfl ?_); refine gl_ 9 Tryd.func57 #[.int .i64 a0_0] ?_; (with_reducible refine (impl_OpValid.calls a0_0 false _ A6.out).mono ?_); rintro e w' ⟨rfl, ⟨nd, rfl⟩⟩; refine ⟨_, rfl, ?_⟩))
  go_meet
  case rel => exact ⟨_, (true), sd_, H', ⟨by first | omega | exact Nat.le_refl _⟩, ⟨aRw_ HO2.out⟩, ⟨by (with_reducible repeat (first | refine blk_drewN ?_ _ | refine blk_drew ?_ | refine blk_alloc ?_ _)); exact BK33.out⟩, ⟨ab22_⟩, ⟨ab27_⟩⟩
 case rest =>
  clear HC4
  obtain ⟨kq, x17_3, rfl, HA, HJ3, HO_2, BK33, HK, HB⟩ := hcut
  cases kq with
  | zero => exact absurd HA.out (by simp [impl_operandTokens.j0])
  | succ kj3 =>
   have H := HA.out
   clear HA
   simp only [impl_operandTokens.j0] at H
   by_cases c11 : x17_3 = true
   ·subst c11
    rw [if_pos rfl] at H
    obtain ⟨t34, A35, H⟩ := bsm H
    (try dsimp only at H)
    have A12 := am A35
    clear A35
    obtain rfl := Option.some.inj H
    obtain ⟨hcz13_0, hcz13_1, hcz13_2, hfz13_0, hfz13_1, hfz13_2⟩ := bcf3_ BK33.out
    obtain ⟨Ao14, co14, eo14⟩ := Kd.R_slice HO_2.out
    subst eo14
    go_wp2_with (first | ((with_reducible refine gate_callee (f := 22) rfl ?_); refine gl_ 20 Tryd.func22 #[.agg #[.int .i64 a0_0, .int .i64 a0_1, .slice A0_2 l0_2.length c0_2], .slice Ao14 l2.length co14] ?_; (with_reducible refine (ih_impl_exprTokens kj3 (by have := HJ3.out; omega) a0_0 a0_1 _ _ l0_2 (fun k_ => some k_ = (.slice Ao14 l2.length co14 : Value).ownBlock) (.slice Ao14 l2.length co14) l2 t34 w0 _ ?side1 ?side2 HC0_2.out ?side4 ?sideT A12.out).mono ?_); (case sideT => first | exact ht_ | exact Tab.below ht_ HB.out | exact Tab.below ht_ ab27_); (case side1 => exact ab27_); (case side2 => exact Kd.C_kept_call HR0_2.out ab22_ (fun k_ hs_ => (fun e_ => (HO_2.out.1 k_ e_.symm)) hs_)); (case side4 => exact Kd.R_tight rfl HO_2.out); rintro e w15 ⟨v36, rfl, ho0, hb, hkp⟩; refine ⟨_, rfl, ?_⟩; replace BK33 := am (blk_kept (aG_ BK33.out) hkp (fun hs_ => (fun e_ => (Kd.R_ne HO_2.out BK33.out (by decide)) e_) hs_)); have HO38 := am (Kd.R_mono (ok' := fun k_ => (P2_ k_ ∨ w.heap.size ≤ k_)) ho0 (fun k_ hk_ => Or.elim hk_ (fun hs_ => (HO_2.out.1 k_ (hs_).symm)) (fun hn_ => (.inr (Nat.le_trans (by first | exact HK.out.1 | exact (show Kept w _ (fun k_ => P2_ k_) from ab22_).1) hn_))))); replace HK := am (Kept.then_ (S := (fun k_ => P2_ k_)) ab22_ hkp (fun k_ hs_ => (fun e_ => (HO_2.out.1 k_ e_.symm)) hs_)); replace HB := am (hb); clear HO_2; (try clear hb); (try clear hkp); (try clear ho0)))
    go_ret
    exact ⟨_, ab16_, aRw_ HO38.out, ab27_, ab22_⟩
   replace c11 := Bool.eq_false_iff.mpr c11
   subst c11
   rw [if_neg (show ¬ (false = true) by decide)] at H
   by_cases c16 : l2.length < 8796093022208
   ·rw [if_pos c16] at H
    have LMc16 := am c16
    clear c16
    obtain ⟨y43, hy_⟩ : ∃ y_ : List ByteArray, y_ = (l2 ++ [(⟨#[40]⟩ : ByteArray)]) := ⟨_, rfl⟩
    replace H : ((impl_exprTokens.f kj3 a0_0 a0_1 l0_2 y43).bind fun t39 => (if t39.length < 8796093022208 then (some (t39 ++ [(⟨#[41]⟩ : ByteArray)])) else (none))) = some r := rx_
    have Ny43 := am hy_
    clear hy_
    obtain ⟨t39, A44, H⟩ := bsm H
    (try dsimp only at H)
    have A17 := am A44
    clear A44
    by_cases c18 : t39.length < 8796093022208
    ·rw [if_pos c18] at H
     have LMc18 := am c18
     clear c18
     obtain ⟨y45, hy_⟩ : ∃ y_ : List ByteArray, y_ = (t39 ++ [(⟨#[41]⟩ : ByteArray)]) := ⟨_, rfl⟩
     replace H : (some y45) = some r := rx_
     have Ny45 := am hy_
     clear hy_
     obtain rfl := Option.some.inj H
     try go_wp2
     replace HO_2 := am (Kd.R_drew HO_2.out)
     replace BK33 := am (blk_drew BK33.out)
     replace HK := am (Kept.drew HK.out)
     replace HB := am (below_drew1 HB.out)
     refine start_ (n := 6) (S := fun w' => w'.cell? ⟨gb33, 0, none⟩ = some (.int .i64 a0_0) ∧ w'.cell? ⟨gb33, 1, none⟩ = some (.int .i64 a0_1) ∧ w'.cell? ⟨gb33, 2, none⟩ = some (.slice A0_2 l0_2.length c0_2)) (ds := []) (bz 6 0) (by kernel_rfl) rfl rfl ⟨(blk_cell BK33.out 0).trans rfl, (blk_cell BK33.out 1).trans rfl, (blk_cell BK33.out 2).trans rfl⟩ (fun hHeld => ?_)
     generalize wc.drew = w19 at HO_2 BK33 HK HB hHeld ⊢
     refine pure_ (i := 1) (N := some 22) (v := ?_) (a' := ?_) (bz 6 2) rfl rfl (by kernel_rfl) (fun _ _ _ h => h) (Or.inl ⟨by rfl, ?_⟩) ?_ ?_
     rotate_left
     ·intro w'
      go_simp
      with_reducible rfl
     rotate_left
     ·simp only [Act.put, List.setIfInBounds_toArray, List.set_cons_zero, List.set_cons_succ, i64_w, i32_w]
      rfl
     refine take_ (i := 0) (N := some 21) (v := ?_) (a' := ?_) (bz 6 3) rfl rfl (by kernel_rfl) (fun _ _ _ h => h) (Or.inl ⟨by rfl, ?_⟩) hHeld ?_ ?_
     rotate_left
     ·rintro w' ⟨s0, s1, s2⟩
      go_simp
      with_reducible rfl
     rotate_left
     ·simp only [Act.put, List.setIfInBounds_toArray, List.set_cons_zero, List.set_cons_succ, i64_w, i32_w]
      rfl
     refine one_ (i := 2) (N := some 23) (bz 6 7) rfl rfl (by kernel_rfl) (by decide) (fun K hK => ?_)
     refine value_ (w1 := ?_) (v := ?_) (by rfl) rfl ?_ ?_
     rotate_left 2
     ·go_simp
      constructor
      ·rfl
      ·rfl
     refine hK.out _ _ ⟨(blk_cell (blk_alloc BK33.out _) 0).trans rfl, (blk_cell (blk_alloc BK33.out _) 1).trans rfl, (blk_cell (blk_alloc BK33.out _) 2).trans rfl⟩ (fun hHeld => ?_)
     clear hK K
     refine norm_ (a' := ?_) ?_ ?_
     rotate_left
     ·show Act.put _ (some 23) _ = _
      simp only [Act.put, List.setIfInBounds_toArray, List.set_cons_zero, List.set_cons_succ, i64_w, i32_w]
      rfl
     refine one_ (i := 3) (N := some 24) (bz 6 15) rfl rfl (by kernel_rfl) (by decide) (fun K hK => ?_)
     refine Kd.R_append_step Kd.string (w0 := w0) w0.heap.size (by rfl) (.tmp 22) (.tmp 23) 37 9 (.string ⟨#[]⟩) 16 rfl Tryd.underlying37 info9 rfl (by decide) (by omega) u28_ l2 (⟨#[40]⟩ : ByteArray) [.string (⟨#[40]⟩ : ByteArray)] (fun k_ => (P2_ k_ ∨ w.heap.size ≤ k_)) (fun _ => False) rfl rfl ?aP (fun _ hk => hk.elim) ?aF ?aO ?aB ?aS ?aL ?_
     (case aP => exact rfl)
     (case aB => exact ab27_)
     (case aF => exact (fun k_ hk => (.inr (Nat.le_trans (by first | exact HK.out.1 | exact (show Kept w _ (fun k_ => P2_ k_) from ab22_).1) hk))))
     (case aO => exact (aR_ HO_2.out))
     (case aS => exact (below_size ab27_))
     (case aL => have := LMc16.out; omega)
     intro v46 w20 ho hb hg hat
     rw [← Ny43.out] at ho
     replace BK33 := am (blk_grown (g := gb33) (o := .cells #[.int .i64 a0_0, .int .i64 a0_1, .slice A0_2 l0_2.length c0_2] 29 (0, 0)) (aG_ BK33.out) hg (Kd.R_ne HO_2.out BK33.out (by decide)))
     replace HB := am (hb)
     replace HK := am (Kept.of_grown (S := (fun k_ => P2_ k_)) hg ab22_ (fun k_ e_ => (HO_2.out.1 k_ e_)))
     have HO47 := am (ho)
     clear HO_2
     clear ho hb hg hat
     obtain ⟨Ao21, co21, eo21⟩ := Kd.R_slice HO47.out
     (first | subst eo21 | (injection eo21 with f1_ f2_ f3_; have f4_ := f1_.symm; have f5_ := f3_.symm; clear f1_ f2_ f3_; subst f4_; subst f5_))
     refine hK.out _ _ ⟨(blk_cell BK33.out 0).trans rfl, (blk_cell BK33.out 1).trans rfl, (blk_cell BK33.out 2).trans rfl⟩ (fun hHeld => ?_)
     clear hK K
     refine norm_ (a' := ?_) ?_ ?_
     rotate_left
     ·show Act.put _ (some 24) _ = _
      simp only [Act.put, List.setIfInBounds_toArray, List.set_cons_zero, List.set_cons_succ, i64_w, i32_w]
      rfl
     refine one_ (i := 4) (N := some 25) (bz 6 31) rfl rfl (by kernel_rfl) (by decide) (fun K hK => ?_)
     refine goes_ Tryd.func22 (by kernel_rfl) rfl #[.agg #[.int .i64 a0_0, .int .i64 a0_1, .slice A0_2 l0_2.length c0_2], .slice Ao21 y43.length co21] (by rfl) rfl rfl ab1_ ?_
     with_reducible refine (ih_impl_exprTokens kj3 (by have := HJ3.out; omega) a0_0 a0_1 _ _ l0_2 (fun k_ => some k_ = (.slice Ao21 y43.length co21 : Value).ownBlock) (.slice Ao21 y43.length co21) y43 t39 w0 _ ?side1 ?side2 HC0_2.out ?side4 ?sideT A17.out).mono ?_
     (case sideT => first | exact ht_ | exact Tab.below ht_ HB.out | exact Tab.below ht_ ab27_)
     (case side1 => exact ab27_)
     (case side2 => exact Kd.C_kept_call HR0_2.out ab22_ (fun k_ hs_ => (fun e_ => (HO47.out.1 k_ e_.symm)) hs_))
     (case side4 => exact Kd.R_tight rfl HO47.out)
     rintro e w22 ⟨v48, rfl, ho0, hb, hkp⟩
     refine ⟨_, rfl, ?_⟩
     replace BK33 := am (blk_kept (aG_ BK33.out) hkp (fun hs_ => (fun e_ => (Kd.R_ne HO47.out BK33.out (by decide)) e_) hs_))
     have HO49 := am (Kd.R_mono (ok' := fun k_ => (P2_ k_ ∨ w.heap.size ≤ k_)) ho0 (fun k_ hk_ => Or.elim hk_ (fun hs_ => (HO47.out.1 k_ (hs_).symm)) (fun hn_ => (.inr (Nat.le_trans (by first | exact HK.out.1 | exact (show Kept w _ (fun k_ => P2_ k_) from ab22_).1) hn_)))))
     replace HK := am (Kept.then_ (S := (fun k_ => P2_ k_)) ab22_ hkp (fun k_ hs_ => (fun e_ => (HO47.out.1 k_ e_.symm)) hs_))
     replace HB := am (hb)
     clear HO47
     (try clear hb)
     (try clear hkp)
     (try clear ho0)
     refine hK.out _ _ ⟨(blk_cell BK33.out 0).trans rfl, (blk_cell BK33.out 1).trans rfl, (blk_cell BK33.out 2).trans rfl⟩ (fun hHeld => ?_)
     clear hK K
     refine norm_ (a' := ?_) ?_ ?_
     rotate_left
     ·show Act.put _ (some 25) _ = _
      simp only [Act.put, List.setIfInBounds_toArray, List.set_cons_zero, List.set_cons_succ, i64_w, i32_w]
      rfl
     refine pure_ (i := 5) (N := some 2) (v := ?_) (a' := ?_) (bz 6 63) rfl rfl (by kernel_rfl) (fun _ _ _ h => h) (Or.inl ⟨by rfl, ?_⟩) ?_ ?_
     rotate_left
     ·intro w'
      go_simp
      with_reducible rfl
     rotate_left
     ·simp only [Act.put, List.setIfInBounds_toArray, List.set_cons_zero, List.set_cons_succ, i64_w, i32_w]
      rfl
     refine done_ (by kernel_rfl) ?_
     try go_wp2_with (first | ((with_reducible refine gate_builtin (b := .append) (xs := #[.tmp 26, .tmp 27]) rfl ?_); at_builtin; refine Kd.R_append Kd.string (w0 := w0) w0.heap.size rfl (.tmp 26) (.tmp 27) 37 9 (.string ⟨#[]⟩) 16 rfl Tryd.underlying37 info9 rfl (by decide) (by omega) v48 t39 (⟨#[41]⟩ : ByteArray) [.string (⟨#[41]⟩ : ByteArray)] (fun k_ => (P2_ k_ ∨ w.heap.size ≤ k_)) (fun _ => False) rfl rfl ?aP (fun _ hk => hk.elim) ?aF ?aO ?aB ?aS ?aL ?_; (case aP => exact rfl); (case aB => exact ab27_); (case aF => exact (fun k_ hk => (.inr (Nat.le_trans (by first | exact HK.out.1 | exact (show Kept w _ (fun k_ => P2_ k_) from ab22_).1) hk)))); (case aO => exact (aR_ HO49.out)); (case aS => exact (below_size ab27_)); (case aL => have := LMc18.out; omega); intro v50 w23 ho hb hg hat; rw [← Ny45.out] at ho; replace BK33 := am (blk_grown (g := gb33) (o := .cells #[.int .i64 a0_0, .int .i64 a0_1, .slice A0_2 l0_2.length c0_2] 29 (0, 0)) (aG_ BK33.out) hg (Kd.R_ne HO49.out BK33.out (by decide))); replace HB := am (hb); replace HK := am (Kept.of_grown (S := (fun k_ => P2_ k_)) hg ab22_ (fun k_ e_ => (HO49.out.1 k_ e_))); have HO51 := am (ho); clear HO49 ho hb hg hat))
     go_ret
     exact ⟨_, ab16_, aRw_ HO51.out, ab27_, ab22_⟩
    rw [if_neg c18] at H
    exact absurd H (by simp)
   rw [if_neg c16] at H
   exact absurd H (by simp)
theorem strconv_Itoa_39.calls (a0 : Int) (r : ByteArray) (w : World) (ht_ : Tab w) (h : strconv_Itoa_39.f a0 = some r) :
  Calls Tryd.prog 39 #[.int .i64 a0] w fun e w' => e = .returned (.string r) ∧ Below w.heap.size w w' := by
 unfold strconv_Itoa_39.f at h
 by_cases h1 : 0 ≤ a0
 case neg => rw [if_neg h1] at h; cases h
 rw [if_pos h1] at h
 by_cases h2 : a0 ≤ 9223372036854775807
 case neg => rw [if_neg h2] at h; cases h
 rw [if_pos h2] at h
 obtain rfl := Option.some.inj h
 refine (Tryd.strconv_Itoa a0 (by omega) h2 w ht_.pow).mono ?_
 rintro e w' ⟨rfl, k, os, rfl⟩
 exact ⟨rfl, Lib.below_grow _ _ (Nat.le_refl _) _ _⟩
theorem impl_varText.calls (a0 : Int) (r : ByteArray) (w : World) (h : impl_varText.f a0 = some r) :
  Calls Tryd.prog 40 #[.int .i64 a0] w fun e w' => e = .returned (.string r) ∧ Drawn0 w w' := by
 unfold impl_varText.f at h
 by_cases h1 : 0 ≤ a0 ∧ a0 ≤ 3
 case neg => rw [if_neg h1] at h; cases h
 rw [if_pos h1] at h
 obtain rfl := Option.some.inj h
 have h4 : a0 = 0 ∨ a0 = 1 ∨ a0 = 2 ∨ a0 = 3 := by omega
 clear h1
 rcases h4 with rfl | rfl | rfl | rfl
 all_goals
  go_enter Tryd.func40, Tryd.ntmps40
  go_wp2
  go_ret
  exact ⟨rfl, Drawn0.refl _⟩
theorem impl_OpText.calls (a0 : Int) (r : ByteArray) (w : World) (ht_ : Tab w) (h : impl_OpText.f a0 = some r) :
  Calls Tryd.prog 43 #[.int .i64 a0] w fun e w' => e = .returned (.string r) ∧ Below w.heap.size w w' := by
 unfold impl_OpText.f at h
 by_cases h1 : 1 ≤ a0 ∧ a0 ≤ 12
 case neg => rw [if_neg h1] at h; cases h
 rw [if_pos h1] at h
 obtain rfl := Option.some.inj h
 have hv : impl_OpValid.f a0 = some true := by
  unfold impl_OpValid.f
  simp [h1.1, h1.2]
 have HV := am hv
 rw [show (a0 - 1).toNat = a0.toNat - 1 by omega]
 have hc := opCell ht_ (a0.toNat - 1) (by omega)
 have hw : wrap64 (a0 - 1) = a0 - 1 := by unfold wrap64; omega
 have p0 : decide (0 ≤ a0 - 1) = true := decide_eq_true (by omega)
 have p1 : decide (a0 - 1 < 12) = true := decide_eq_true (by omega)
 have q0 : (0 ≤ a0 - 1) = True := eq_true (by omega)
 have q1 : (a0 - 1 < 12) = True := eq_true (by omega)
 have q2 : (1 ≤ a0) = True := eq_true h1.1
 have q3 : (a0 < 13) = True := eq_true (by omega)
 clear hv h1
 go_enter Tryd.func43, Tryd.ntmps43
 go_wp2_with (first | (go_at_call 57; (with_reducible refine (impl_OpValid.calls a0 true _ HV.out).mono ?_); rintro e w' ⟨rfl, ⟨nd, rfl⟩⟩))
 go_ret
 exact ⟨rfl, by first | exact Below.refl _ _ | exact pw_below_drewN (Below.refl _ _) _⟩
theorem impl_exprTokens.foot_T29_2 {w Wn : World} {S : Nat → Prop} {A : Option Addr} {n : Nat} {xs : List S29} (h : ∀ W_, Kept w W_ S → Kd.C k29 W_ A n xs) (hk : Kept w Wn S) (i : Int) (h0 : 0 ≤ i) (h1 : i < n) {ad : Addr} {A2 : Option Addr} {c2 : Nat} (e : A = some ad) (hc : Wn.cell? ⟨(ad.add (i.toNat * 3)).block, (ad.add (i.toNat * 3)).off + 2, none⟩ = some (.slice A2 (rd_T29 xs i).f2.length c2)) : ∀ W_, Kept w W_ S → k29.C W_ A2 (rd_T29 xs i).f2.length (rd_T29 xs i).f2 := by
 intro W_ hW
 subst e
 have hne : ¬ S ad.block := Kd.foot_neS h (by omega) (by decide)
 have hlt : ad.block < w.heap.size := Kd.foot_ltS h (by omega) (by decide)
 obtain ⟨ad', A2q, c2q, e', _, _, X2, _, I2⟩ := at_T29 (h W_ hW) i h0 h1
 injection e' with e'
 subst e'
 have hb : W_.heap[ad.block]? = Wn.heap[ad.block]? := (hW.2 _ hlt hne).trans (hk.2 _ hlt hne).symm
 have hcc : ∀ a : Addr, a.block = ad.block → W_.cell? a = Wn.cell? a := by
  intro a ha
  unfold World.cell?
  rw [ha, hb]
 have h2 := (hcc ⟨(ad.add (i.toNat * 3)).block, (ad.add (i.toNat * 3)).off + 2, none⟩ (by show (ad.add _).block = ad.block; unfold Addr.add; split <;> rfl)).trans hc
 rw [X2] at h2
 injection h2 with h2
 injection h2 with h2 h3 h4
 subst h2
 exact I2
theorem impl_exprTokens.step (k : Nat) (ih_impl_operandTokens : ∀ m, m < k → impl_operandTokens.CallsAt m) (ih_impl_exprTokens : ∀ m, m < k → impl_exprTokens.CallsAt m) : impl_exprTokens.CallsAt k := by
 intro a0_0 a0_1 A0_2 c0_2 l0_2 P1_ u23_ l1 r w0 w hB hr0_2 hc0_2 ho1 ht_ h
 cases k with
 | zero => exact absurd h (by simp [impl_exprTokens.f])
 | succ k =>
 simp only [impl_exprTokens.f] at h
 have hu29 := Tryd.underlying29
 have HR0_2 := am hr0_2
 have HC0_2 := am hc0_2
 clear hr0_2 hc0_2
 have HO1 := am (show Kd.R Kd.string 9 w w0.heap.size (fun k_ => (P1_ k_ ∨ w.heap.size ≤ k_)) u23_ l1 from Kd.R_mono ho1 (fun k_ hk => (.inl hk)))
 have HK := am (Kept.refl w (fun k_ => P1_ k_))
 have HW0 := am hB.size
 have HB := am hB
 clear hB
 have H : (if a0_0 = 0 then ((strconv_Itoa_39.f a0_1).bind fun t24 => (if l1.length < 8796093022208 then (some (l1 ++ [t24])) else (none))) else (if a0_0 = 13 then ((impl_varText.f a0_1).bind fun t35 => (if l1.length < 8796093022208 then (some (l1 ++ [t35])) else (none))) else ((impl_OpLevel.f k a0_0).bind fun t36 => (if 0 < (l0_2.length : Int) then ((impl_operandTokens.f k ((rd_T29 l0_2 0).f0) ((rd_T29 l0_2 0).f1) ((rd_T29 l0_2 0).f2) t36 l1).bind fun t44 => ((impl_OpText.f a0_0).bind fun t45 => (if t44.length < 8796093022208 then (if 1 < (l0_2.length : Int) then ((impl_operandTokens.f k ((rd_T29 l0_2 1).f0) ((rd_T29 l0_2 1).f1) ((rd_T29 l0_2 1).f2) (wrap64 (t36 + 1)) (t44 ++ [t45])).bind fun t46 => (some t46)) else (none)) else (none)))) else (none))))) = some r := h
 clear h
 have HH_ := am H
 clear H
 go_enter Tryd.func22, Tryd.ntmps22
 go_upto_region 1 with (first | ((with_reducible refine gate_dst (N := 2) rfl ?_); refine box_event rfl (N := 2) rfl (cs := #[.int .i64 a0_0, .int .i64 a0_1, .slice A0_2 l0_2.length c0_2]) (t := 29) rn_ ?_; intro gb48 hg w6 hbox hb; replace HO1 := am (Kd.R_below (aR_ HO1.out) hb); have BK48 := am (hbox); have GW48 := am ((by rw [hg]; exact (by first | exact HK.out.1 | exact (show Kept w _ (fun k_ => P1_ k_) from ab34_).1) : w.heap.size ≤ gb48)); replace HK := am (Kept.below (S := (fun k_ => P1_ k_)) ab34_ hb); have GE48 := am ((by rw [hg]; exact (below_size ab2_) : w0.heap.size ≤ gb48)); replace HB := am (below_step ab2_ hb); clear hb hbox hg; obtain ⟨hcz7_0, hcz7_1, hcz7_2, hfz7_0, hfz7_1, hfz7_2⟩ := bcf3_ BK48.out))
 have H := HH_.out
 clear HH_
 by_cases c3 : a0_0 = 0
 ·rw [if_pos c3] at H
  have c3b0 : (a0_0 == 0) = true := beq_iff_eq.mpr c3
  have c3b1 : (a0_0 != 0) = false := bne_eq_false_iff_eq.mpr c3
  clear c3
  obtain ⟨t24, A4, H⟩ := bsa H
  (try dsimp only at H)
  by_cases c5 : l1.length < 8796093022208
  ·rw [if_pos c5] at H
   have LMc5 := am c5
   clear c5
   obtain ⟨y49, hy_⟩ : ∃ y_ : List ByteArray, y_ = (l1 ++ [t24]) := ⟨_, rfl⟩
   replace H : (some y49) = some r := rx_
   have Ny49 := am hy_
   clear hy_
   obtain rfl := Option.some.inj H
   go_wp2_with (first | ((with_reducible refine gate_callee (f := 39) rfl ?_); refine gl_ 13 Tryd.func39 #[.int .i64 a0_1] ?_; (with_reducible refine (strconv_Itoa_39.calls a0_1 t24 _ ?sideT A4.out).mono ?_); (case sideT => first | exact ht_ | exact Tab.below ht_ HB.out | exact Tab.below ht_ ab14_); rintro e w8 ⟨rfl, hb⟩; refine ⟨_, rfl, ?_⟩; replace HO1 := am (Kd.R_below (aR_ HO1.out) hb); replace BK48 := am (bbl_ BK48.out hb); replace HK := am (Kept.below (S := (fun k_ => P1_ k_)) ab13_ hb); replace HB := am (below_step ab14_ hb); (try clear hb)) | ((with_reducible refine gate_builtin (b := .append) (xs := #[.tmp 10, .tmp 14]) rfl ?_); at_builtin; refine Kd.R_append Kd.string (w0 := w0) w0.heap.size rfl (.tmp 10) (.tmp 14) 37 9 (.string ⟨#[]⟩) 16 rfl Tryd.underlying37 info9 rfl (by decide) (by omega) u23_ l1 t24 [.string t24] (fun k_ => (P1_ k_ ∨ w.heap.size ≤ k_)) (fun _ => False) rfl rfl ?aP (fun _ hk => hk.elim) ?aF ?aO ?aB ?aS ?aL ?_; (case aP => exact rfl); (case aB => exact ab14_); (case aF => exact (fun k_ hk => (.inr (Nat.le_trans (by first | exact HK.out.1 | exact (show Kept w _ (fun k_ => P1_ k_) from ab13_).1) hk)))); (case aO => exact (aR_ HO1.out)); (case aS => exact (below_size ab14_)); (case aL => have := LMc5.out; omega); intro v50 w9 ho hb hg hat; rw [← Ny49.out] at ho; replace BK48 := am (blk_grown (g := gb48) (o := .cells #[.int .i64 a0_0, .int .i64 a0_1, .slice A0_2 l0_2.length c0_2] 29 (0, 0)) (aG_ BK48.out) hg (Kd.R_ne HO1.out BK48.out (by decide))); replace HB := am (hb); replace HK := am (Kept.of_grown (S := (fun k_ => P1_ k_)) hg ab13_ (fun k_ e_ => (HO1.out.1 k_ e_))); have HO51 := am (ho); clear HO1 ho hb hg hat))
   go_ret
   exact ⟨_, ab16_, aRw_ HO51.out, ab14_, ab13_⟩
  rw [if_neg c5] at H
  exact absurd H (by simp)
 rw [if_neg c3] at H
 have c3b0 : (a0_0 == 0) = false := beq_eq_false_iff_ne.mpr c3
 have c3b1 : (a0_0 != 0) = true := bne_iff_ne.mpr c3
 by_cases c10 : a0_0 = 13
 ·rw [if_pos c10] at H
  have c10b0 : (a0_0 == 13) = true := beq_iff_eq.mpr c10
  have c10b1 : (a0_0 != 13) = false := bne_eq_false_iff_eq.mpr c10
  clear c10
  obtain ⟨t35, A52, H⟩ := bsm H
  (try dsimp only at H)
  have A11 := am A52
  clear A52
  by_cases c12 : l1.length < 8796093022208
  ·rw [if_pos c12] at H
   have LMc12 := am c12
   clear c12
   obtain ⟨y53, hy_⟩ : ∃ y_ : List ByteArray, y_ = (l1 ++ [t35]) := ⟨_, rfl⟩
   replace H : (some y53) = some r := rx_
   have Ny53 := am hy_
   clear hy_
   obtain rfl := Option.some.inj H
   go_wp2_with (first | ((with_reducible refine gate_callee (f := 40) rfl ?_); refine gl_ 21 Tryd.func40 #[.int .i64 a0_1] ?_; (with_reducible refine (impl_varText.calls a0_1 t35 _ A11.out).mono ?_); rintro e w' ⟨rfl, ⟨nd, rfl⟩⟩; refine ⟨_, rfl, ?_⟩) | ((with_reducible refine gate_builtin (b := .append) (xs := #[.tmp 18, .tmp 22]) rfl ?_); at_builtin; refine Kd.R_append Kd.string (w0 := w0) w0.heap.size rfl (.tmp 18) (.tmp 22) 37 9 (.string ⟨#[]⟩) 16 rfl Tryd.underlying37 info9 rfl (by decide) (by omega) u23_ l1 t35 [.string t35] (fun k_ => (P1_ k_ ∨ w.heap.size ≤ k_)) (fun _ => False) rfl rfl ?aP (fun _ hk => hk.elim) ?aF ?aO ?aB ?aS ?aL ?_; (case aP => exact rfl); (case aB => exact ab14_); (case aF => exact (fun k_ hk => (.inr (Nat.le_trans (by first | exact HK.out.1 | exact (show Kept w _ (fun k_ => P1_ k_) from ab13_).1) hk)))); (case aO => exact (aR_ HO1.out)); (case aS => exact (below_size ab14_)); (case aL => have := LMc12.out; omega); intro v54 w15 ho hb hg hat; rw [← Ny53.out] at ho; replace BK48 := am (blk_grown (g := gb48) (o := .cells #[.int .i64 a0_0, .int .i64 a0_1, .slice A0_2 l0_2.length c0_2] 29 (0, 0)) (aG_ BK48.out) hg (Kd.R_ne HO1.out BK48.out (by decide))); replace HB := am (hb); replace HK := am (Kept.of_grown (S := (fun k_ => P1_ k_)) hg ab13_ (fun k_ e_ => (HO1.out.1 k_ e_))); have HO55 := am (ho); clear HO1 ho hb hg hat))
   go_ret
   exact ⟨_, ab16_, aRw_ HO55.out, ab14_, ab13_⟩
  rw [if_neg c12] at H
  exact absurd H (by simp)
 rw [if_neg c10] at H
 have c10b0 : (a0_0 == 13) = false := beq_eq_false_iff_ne.mpr c10
 have c10b1 : (a0_0 != 13) = true := bne_iff_ne.mpr c10
 obtain ⟨t36, A56, H⟩ := bsm H
 (try dsimp only at H)
 have A16 := am A56
 clear A56
 by_cases c17 : 0 < (l0_2.length : Int)
 ·rw [if_pos c17] at H
  have c17b0 : decide (0 < (l0_2.length : Int)) = true := decide_eq_true c17
  have c17b1 : decide (0 < l0_2.length) = true := decide_eq_true (by omega)
  clear c17
  obtain ⟨t44, A57, H⟩ := bsm H
  (try dsimp only at H)
  have A18 := am A57
  clear A57
  obtain ⟨t45, A58, H⟩ := bsm H
  (try dsimp only at H)
  have A19 := am A58
  clear A58
  by_cases c20 : t44.length < 8796093022208
  ·rw [if_pos c20] at H
   have LMc20 := am c20
   clear c20
   obtain ⟨y59, hy_⟩ : ∃ y_ : List ByteArray, y_ = (t44 ++ [t45]) := ⟨_, rfl⟩
   replace H : (if 1 < (l0_2.length : Int) then ((impl_operandTokens.f k ((rd_T29 l0_2 1).f0) ((rd_T29 l0_2 1).f1) ((rd_T29 l0_2 1).f2) (wrap64 (t36 + 1)) y59).bind fun t46 => (some t46)) else (none)) = some r := rx_
   have Ny59 := am hy_
   clear hy_
   by_cases c21 : 1 < (l0_2.length : Int)
   ·rw [if_pos c21] at H
    have c21b0 : decide (1 < (l0_2.length : Int)) = true := decide_eq_true c21
    have c21b1 : decide (1 < l0_2.length) = true := decide_eq_true (by omega)
    clear c21
    obtain ⟨t46, A22, H⟩ := bsa H
    (try dsimp only at H)
    obtain rfl := Option.some.inj H
    go_wp2_with (first | ((with_reducible refine gate_callee (f := 41) rfl ?_); refine gl_ 26 Tryd.func41 #[.int .i64 a0_0] ?_; (with_reducible refine (impl_OpLevel.calls k a0_0 t36 _ A16.out).mono ?_); rintro e w' ⟨rfl, ⟨nd, rfl⟩⟩; refine ⟨_, rfl, ?_⟩; have p61 : 0 ≤ (0 : Int) := (by omega); have q61 : 0 < (l0_2.length : Int) := of_decide_eq_true asm_; obtain ⟨ad61, A61_2, c61_2, e61, hx61_0, hx61_1, hx61_2, hl61_2, hi61_2⟩ := at_T29 (Kd.C_kept_now HR0_2.out HK.out) 0 p61 q61; have HF272_2 := am (impl_exprTokens.foot_T29_2 HR0_2.out HK.out 0 p61 q61 e61 hx61_2); cases e61; have qi61 : (0 < l0_2.length) = True := eq_true (by omega); (try rw [show ((0 : Int)).toNat = 0 from rfl] at hx61_0); (try rw [show 0 * 3 = 0 from rfl] at hx61_0); (try rw [Addr.add_zero'] at hx61_0); (try rw [show ((0 : Int)).toNat = 0 from rfl] at hx61_1); (try rw [show 0 * 3 = 0 from rfl] at hx61_1); (try rw [Addr.add_zero'] at hx61_1); (try rw [show ((0 : Int)).toNat = 0 from rfl] at hx61_2); (try rw [show 0 * 3 = 0 from rfl] at hx61_2); (try rw [Addr.add_zero'] at hx61_2); have HR61_2 := am hi61_2; have HC61_2 := am hl61_2; clear hi61_2 hl61_2; replace p61 := eq_true p61; replace q61 := eq_true q61; obtain ⟨Ao25, co25, eo25⟩ := Kd.R_slice HO1.out; subst eo25) | ((with_reducible refine gate_callee (f := 42) rfl ?_); refine gl_ 33 Tryd.func42 #[.agg #[.int .i64 ((rd_T29 l0_2 0).f0), .int .i64 ((rd_T29 l0_2 0).f1), .slice A61_2 ((rd_T29 l0_2 0).f2).length c61_2], .int .i64 t36, .slice Ao25 l1.length co25] ?_; (with_reducible refine (ih_impl_operandTokens k (by omega) ((rd_T29 l0_2 0).f0) ((rd_T29 l0_2 0).f1) _ _ ((rd_T29 l0_2 0).f2) t36 (fun k_ => some k_ = (.slice Ao25 l1.length co25 : Value).ownBlock) (.slice Ao25 l1.length co25) l1 t44 w0 _ ?side1 ?side2 HC61_2.out ?side4 ?sideT A18.out).mono ?_); (case sideT => first | exact ht_ | exact Tab.below ht_ HB.out | exact Tab.below ht_ ab14_); (case side1 => exact ab14_); (case side2 => exact Kd.C_kept_call HF272_2.out ab13_ (fun k_ hs_ => (fun e_ => (HO1.out.1 k_ e_.symm)) hs_)); (case side4 => exact Kd.R_tight rfl HO1.out); rintro e w26 ⟨v62, rfl, ho0, hb, hkp⟩; refine ⟨_, rfl, ?_⟩; replace BK48 := am (blk_kept (aG_ BK48.out) hkp (fun hs_ => (fun e_ => (Kd.R_ne HO1.out BK48.out (by decide)) e_) hs_)); have HO63 := am (Kd.R_mono (ok' := fun k_ => (P1_ k_ ∨ w.heap.size ≤ k_)) ho0 (fun k_ hk_ => Or.elim hk_ (fun hs_ => (HO1.out.1 k_ (hs_).symm)) (fun hn_ => (.inr (Nat.le_trans (by first | exact HK.out.1 | exact (show Kept w _ (fun k_ => P1_ k_) from ab13_).1) hn_))))); replace HK := am (Kept.then_ (S := (fun k_ => P1_ k_)) ab13_ hkp (fun k_ hs_ => (fun e_ => (HO1.out.1 k_ e_.symm)) hs_)); replace HB := am (hb); clear HO1; (try clear hb); (try clear hkp); (try clear ho0); obtain ⟨hcz27_0, hcz27_1, hcz27_2, hfz27_0, hfz27_1, hfz27_2⟩ := bcf3_ BK48.out) | ((with_reducible refine gate_callee (f := 43) rfl ?_); refine gl_ 37 Tryd.func43 #[.int .i64 a0_0] ?_; (with_reducible refine (impl_OpText.calls a0_0 t45 _ ?sideT A19.out).mono ?_); (case sideT => first | exact ht_ | exact Tab.below ht_ HB.out | exact Tab.below ht_ ab14_); rintro e w28 ⟨rfl, hb⟩; refine ⟨_, rfl, ?_⟩; replace HO63 := am (Kd.R_below (aR_ HO63.out) hb); replace BK48 := am (bbl_ BK48.out hb); replace HK := am (Kept.below (S := (fun k_ => P1_ k_)) ab13_ hb); replace HB := am (below_step ab14_ hb); (try clear hb)) | ((with_reducible refine gate_builtin (b := .append) (xs := #[.tmp 34, .tmp 38]) rfl ?_); at_builtin; refine Kd.R_append Kd.string (w0 := w0) w0.heap.size rfl (.tmp 34) (.tmp 38) 37 9 (.string ⟨#[]⟩) 16 rfl Tryd.underlying37 info9 rfl (by decide) (by omega) v62 t44 t45 [.string t45] (fun k_ => (P1_ k_ ∨ w.heap.size ≤ k_)) (fun _ => False) rfl rfl ?aP (fun _ hk => hk.elim) ?aF ?aO ?aB ?aS ?aL ?_; (case aP => exact rfl); (case aB => exact ab14_); (case aF => exact (fun k_ hk => (.inr (Nat.le_trans (by first | exact HK.out.1 | exact (show Kept w _ (fun k_ => P1_ k_) from ab13_).1) hk)))); (case aO => exact (aR_ HO63.out)); (case aS => exact (below_size ab14_)); (case aL => have := LMc20.out; omega); intro v65 w29 ho hb hg hat; rw [← Ny59.out] at ho; replace BK48 := am (blk_grown (g := gb48) (o := .cells #[.int .i64 a0_0, .int .i64 a0_1, .slice (some ad61) l0_2.length c0_2] 29 (0, 0)) (aG_ BK48.out) hg (Kd.R_ne HO63.out BK48.out (by decide))); replace HB := am (hb); replace HK := am (Kept.of_grown (S := (fun k_ => P1_ k_)) hg ab13_ (fun k_ e_ => (HO63.out.1 k_ e_))); have HO66 := am (ho); clear HO63 ho hb hg hat; obtain ⟨hcz30_0, hcz30_1, hcz30_2, hfz30_0, hfz30_1, hfz30_2⟩ := bcf3_ BK48.out; have p67 : 0 ≤ (1 : Int) := (by omega); have q67 : 1 < (l0_2.length : Int) := of_decide_eq_true asm_; obtain ⟨ad67, A67_2, c67_2, e67, hx67_0, hx67_1, hx67_2, hl67_2, hi67_2⟩ := at_T29 (Kd.C_kept_now HR0_2.out HK.out) 1 p67 q67; have HF280_2 := am (impl_exprTokens.foot_T29_2 HR0_2.out HK.out 1 p67 q67 e67 hx67_2); obtain rfl : ad61 = ad67 := (by injection e67); (try simp only [show (1 : Int).toNat = 1 from rfl, Nat.reduceMul, Nat.reduceEqDiff, Go.Addr.add, ↓reduceIte] at hx67_0); (try simp only [show (1 : Int).toNat = 1 from rfl, Nat.reduceMul, Nat.reduceEqDiff, Go.Addr.add, ↓reduceIte] at hx67_1); (try simp only [show (1 : Int).toNat = 1 from rfl, Nat.reduceMul, Nat.reduceEqDiff, Go.Addr.add, ↓reduceIte] at hx67_2); have qi67 : (1 < l0_2.length) = True := eq_true (by omega); (try rw [show ((1 : Int)).toNat = 1 from rfl] at hx67_0); (try rw [show 1 * 3 = 3 from rfl] at hx67_0); (try rw [show ((1 : Int)).toNat = 1 from rfl] at hx67_1); (try rw [show 1 * 3 = 3 from rfl] at hx67_1); (try rw [show ((1 : Int)).toNat = 1 from rfl] at hx67_2); (try rw [show 1 * 3 = 3 from rfl] at hx67_2); have HR67_2 := am hi67_2; have HC67_2 := am hl67_2; clear hi67_2 hl67_2; replace p67 := eq_true p67; replace q67 := eq_true q67; obtain ⟨Ao31, co31, eo31⟩ := Kd.R_slice HO66.out; subst eo31) | ((with_reducible refine gate_callee (f := 42) rfl ?_); refine gl_ 47 Tryd.func42 #[.agg #[.int .i64 ((rd_T29 l0_2 1).f0), .int .i64 ((rd_T29 l0_2 1).f1), .slice A67_2 ((rd_T29 l0_2 1).f2).length c67_2], .int .i64 (wrap64 (t36 + 1)), .slice Ao31 y59.length co31] ?_; (with_reducible refine (ih_impl_operandTokens k (by omega) ((rd_T29 l0_2 1).f0) ((rd_T29 l0_2 1).f1) _ _ ((rd_T29 l0_2 1).f2) (wrap64 (t36 + 1)) (fun k_ => some k_ = (.slice Ao31 y59.length co31 : Value).ownBlock) (.slice Ao31 y59.length co31) y59 t46 w0 _ ?side1 ?side2 HC67_2.out ?side4 ?sideT A22.out).mono ?_); (case sideT => first | exact ht_ | exact Tab.below ht_ HB.out | exact Tab.below ht_ ab14_); (case side1 => exact ab14_); (case side2 => exact Kd.C_kept_call HF280_2.out ab13_ (fun k_ hs_ => (fun e_ => (HO66.out.1 k_ e_.symm)) hs_)); (case side4 => exact Kd.R_tight rfl HO66.out); rintro e w32 ⟨v68, rfl, ho0, hb, hkp⟩; refine ⟨_, rfl, ?_⟩; replace BK48 := am (blk_kept (aG_ BK48.out) hkp (fun hs_ => (fun e_ => (Kd.R_ne HO66.out BK48.out (by decide)) e_) hs_)); have HO69 := am (Kd.R_mono (ok' := fun k_ => (P1_ k_ ∨ w.heap.size ≤ k_)) ho0 (fun k_ hk_ => Or.elim hk_ (fun hs_ => (HO66.out.1 k_ (hs_).symm)) (fun hn_ => (.inr (Nat.le_trans (by first | exact HK.out.1 | exact (show Kept w _ (fun k_ => P1_ k_) from ab13_).1) hn_))))); replace HK := am (Kept.then_ (S := (fun k_ => P1_ k_)) ab13_ hkp (fun k_ hs_ => (fun e_ => (HO66.out.1 k_ e_.symm)) hs_)); replace HB := am (hb); clear HO66; (try clear hb); (try clear hkp); (try clear ho0)))
    go_ret
    exact ⟨_, ab16_, aRw_ HO69.out, ab14_, ab13_⟩
   rw [if_neg c21] at H
   exact absurd H (by simp)
  rw [if_neg c20] at H
  exact absurd H (by simp)
 rw [if_neg c17] at H
 exact absurd H (by simp)
theorem impl_operandTokens.calls_all (k : Nat) : impl_operandTokens.CallsAt k ∧ impl_exprTokens.CallsAt k := by
 induction k using Nat.strongRecOn with
 | _ k ih => exact ⟨impl_operandTokens.step k (ih_impl_operandTokens := fun m hm => (ih m hm).1) (ih_impl_exprTokens := fun m hm => (ih m hm).2), impl_exprTokens.step k (ih_impl_operandTokens := fun m hm => (ih m hm).1) (ih_impl_exprTokens := fun m hm => (ih m hm).2)⟩
theorem impl_operandTokens.calls (k : Nat) : impl_operandTokens.CallsAt k := (impl_operandTokens.calls_all k).1
theorem impl_exprTokens.calls (k : Nat) : impl_exprTokens.CallsAt k := (impl_operandTokens.calls_all k).2
theorem impl_ExprText.mono : ∀ a0 a1 a2 k, LeO (impl_ExprText.f k a0 a1 a2) (impl_ExprText.f (k + 1) a0 a1 a2) := by
 intro a0 a1 a2 k
 unfold impl_ExprText.f
 have m0 := @impl_ExprValid.mono
 have m1 := @impl_TokensText.mono
 have m2 := @impl_exprTokens.mono
 exact mo_
theorem impl_ExprText.calls (k : Nat) (a0_0 : Int) (a0_1 : Int) (A0_2 : Option Addr) (c0_2 : Nat) (l0_2 : List (S29)) (r : ByteArray) (w : World) (hr0_2 : Kd.C k29 w A0_2 l0_2.length l0_2) (hc0_2 : l0_2.length ≤ c0_2) (ht_ : Tab w) (h : impl_ExprText.f k a0_0 a0_1 l0_2 = some r) :
  Calls Tryd.prog 9 #[.agg #[.int .i64 a0_0, .int .i64 a0_1, .slice A0_2 l0_2.length c0_2]] w fun e w' => e = .returned (.string r) ∧ Below w.heap.size w w' := by
 have hu29 := Tryd.underlying29
 have HR0_2 := am hr0_2
 have HC0_2 := am hc0_2
 clear hr0_2 hc0_2
 have HB := am (Below.refl w.heap.size w)
 have H : ((impl_ExprValid.f k a0_0 a0_1 l0_2).bind fun t23 => (if t23 = true then ((impl_exprTokens.f k a0_0 a0_1 l0_2 ([] : List ByteArray)).bind fun t24 => ((impl_TokensText.f k t24).bind fun t25 => (some t25))) else (some (⟨#[]⟩ : ByteArray)))) = some r := h
 clear h
 obtain ⟨t23, A2, H⟩ := bsa H
 (try dsimp only at H)
 have HH_ := am H
 clear H
 go_enter Tryd.func9, Tryd.ntmps9
 go_upto_region 1 with (first | ((with_reducible refine gate_dst (N := 1) rfl ?_); refine box_event rfl (N := 1) rfl (cs := #[.int .i64 a0_0, .int .i64 a0_1, .slice A0_2 l0_2.length c0_2]) (t := 29) rn_ ?_; intro gb26 hg w6 hbox hb; have BK26 := am (hbox); have GW26 := am ((by rw [hg]; exact (below_size ab2_) : w.heap.size ≤ gb26)); have GE26 := am ((by rw [hg]; exact (below_size ab2_) : w.heap.size ≤ gb26)); replace HB := am (below_step ab2_ hb); clear hb hbox hg; obtain ⟨hcz7_0, hcz7_1, hcz7_2, hfz7_0, hfz7_1, hfz7_2⟩ := bcf3_ BK26.out))
 have H := HH_.out
 clear HH_
 by_cases c3 : t23 = true
 ·subst c3
  rw [if_pos rfl] at H
  obtain ⟨t24, A4, H⟩ := bsa H
  (try dsimp only at H)
  obtain ⟨t25, A5, H⟩ := bsa H
  (try dsimp only at H)
  obtain rfl := Option.some.inj H
  go_wp2_with (first | ((with_reducible refine gate_callee (f := 20) rfl ?_); refine gl_ 4 Tryd.func20 #[.agg #[.int .i64 a0_0, .int .i64 a0_1, .slice A0_2 l0_2.length c0_2]] ?_; (with_reducible refine (impl_ExprValid.calls k a0_0 a0_1 _ _ l0_2 true _ (aC_ (Kd.C_below HR0_2.out HB.out)) HC0_2.out A2.out).mono ?_); rintro e w8 ⟨rfl, hb⟩; refine ⟨_, rfl, ?_⟩; replace BK26 := am (bbl_ BK26.out hb); replace HB := am (below_step ab37_ hb); (try clear hb); obtain ⟨hcz9_0, hcz9_1, hcz9_2, hfz9_0, hfz9_1, hfz9_2⟩ := bcf3_ BK26.out) | ((with_reducible refine gate_callee (f := 22) rfl ?_); refine gl_ 7 Tryd.func22 #[.agg #[.int .i64 a0_0, .int .i64 a0_1, .slice A0_2 l0_2.length c0_2], .slice none 0 0] ?_; (refine (impl_exprTokens.calls k a0_0 a0_1 _ _ l0_2 (fun k_ => some k_ = (.slice none 0 0 : Value).ownBlock) (.slice none 0 0) ([] : List ByteArray) t24 w _ ?side1 ?side2 HC0_2.out ?side4 ?sideT A4.out).mono ?_); (case sideT => first | exact ht_ | exact Tab.below ht_ HB.out | exact Tab.below ht_ ab37_); (case side1 => exact ab37_); (case side2 => exact Kd.C_kept_came k29_heap HR0_2.out ab37_ (fun k_ hs_ => (fun e_ => by simp [Value.ownBlock] at e_) hs_)); (case side4 => exact Kd.R_nil _ _ _ _ _); rintro e w10 ⟨v27, rfl, ho0, hb, hkp⟩; refine ⟨_, rfl, ?_⟩; replace BK26 := am (blk_kept (aG_ BK26.out) hkp (fun hs_ => (fun e_ => by simp [Value.ownBlock] at e_) hs_)); have HO28 := am (Kd.R_mono (ok' := fun k_ => True) ho0 (fun k_ hk_ => trivial)); replace HB := am (hb); (try clear hb); (try clear hkp); (try clear ho0); obtain ⟨Ao11, co11, eo11⟩ := Kd.R_slice HO28.out; subst eo11) | ((with_reducible refine gate_callee (f := 21) rfl ?_); refine gl_ 8 Tryd.func21 #[.slice Ao11 t24.length co11] ?_; (with_reducible refine (impl_TokensText.calls k _ _ t24 t25 _ (aC_ (Kd.R_reads' HO28.out).2.2) (Kd.R_reads' HO28.out).2.1 A5.out).mono ?_); rintro e w12 ⟨rfl, hb⟩; refine ⟨_, rfl, ?_⟩; replace HO28 := am (Kd.R_below (aR_ HO28.out) hb); replace BK26 := am (bbl_ BK26.out hb); replace HB := am (below_step ab37_ hb); (try clear hb)))
  go_ret
  exact ⟨rr_, ab37_⟩
 replace c3 := Bool.eq_false_iff.mpr c3
 subst c3
 rw [if_neg (show ¬ (false = true) by decide)] at H
 obtain rfl := Option.some.inj H
 go_wp2_with (first | ((with_reducible refine gate_callee (f := 20) rfl ?_); refine gl_ 4 Tryd.func20 #[.agg #[.int .i64 a0_0, .int .i64 a0_1, .slice A0_2 l0_2.length c0_2]] ?_; (with_reducible refine (impl_ExprValid.calls k a0_0 a0_1 _ _ l0_2 false _ (aC_ (Kd.C_below HR0_2.out HB.out)) HC0_2.out A2.out).mono ?_); rintro e w15 ⟨rfl, hb⟩; refine ⟨_, rfl, ?_⟩; replace BK26 := am (bbl_ BK26.out hb); replace HB := am (below_step ab37_ hb); (try clear hb)))
 go_ret
 exact ⟨rr_, ab37_⟩
theorem laws_eqExprS.mono_all : ∀ k, (∀ y0 y1, LeO (laws_eqExprS.f k y0 y1) (laws_eqExprS.f (k + 1) y0 y1)) ∧ (∀ y0 y1 y2, LeO (laws_eqExprS.l0 k y0 y1 y2) (laws_eqExprS.l0 (k + 1) y0 y1 y2)) ∧ (∀ y0 y1 y2 y3 y4 y5, LeO (laws_eqExpr.f k y0 y1 y2 y3 y4 y5) (laws_eqExpr.f (k + 1) y0 y1 y2 y3 y4 y5))
 | 0 => ⟨fun _ _ r h => by simp [laws_eqExprS.f] at h, fun _ _ _ r h => by simp [laws_eqExprS.l0] at h, fun _ _ _ _ _ _ r h => by simp [laws_eqExpr.f] at h⟩
 | k + 1 => by
  obtain ⟨ih0, ih1, ih2⟩ := laws_eqExprS.mono_all k
  refine ⟨?_, ?_, ?_⟩
  ·intro y0 y1
   unfold laws_eqExprS.f
   exact mo_
  ·intro y0 y1 y2
   unfold laws_eqExprS.l0
   exact mo_
  ·intro y0 y1 y2 y3 y4 y5
   unfold laws_eqExpr.f
   exact mo_
theorem laws_eqExprS.mono : ∀ a0 a1 k, LeO (laws_eqExprS.f k a0 a1) (laws_eqExprS.f (k + 1) a0 a1) := by
 intro a0 a1 k
 obtain ⟨ih0, ih1, ih2⟩ := laws_eqExprS.mono_all k
 exact ih0 a0 a1
theorem laws_eqExpr.mono : ∀ a0 a1 a2 a3 a4 a5 k, LeO (laws_eqExpr.f k a0 a1 a2 a3 a4 a5) (laws_eqExpr.f (k + 1) a0 a1 a2 a3 a4 a5) := by
 intro a0 a1 a2 a3 a4 a5 k
 obtain ⟨ih0, ih1, ih2⟩ := laws_eqExprS.mono_all k
 exact ih2 a0 a1 a2 a3 a4 a5
abbrev laws_eqExprS.CallsAt (k : Nat) : Prop := ∀ (A0 : Option Addr) (c0 : Nat) (l0 : List (S29)) (A1 : Option Addr) (c1 : Nat) (l1 : List (S29)) (r : Bool) (w : World) (hr0 : Kd.C k29 w A0 l0.length l0) (hc0 : l0.length ≤ c0) (hr1 : Kd.C k29 w A1 l1.length l1) (hc1 : l1.length ≤ c1) (h : laws_eqExprS.f k l0 l1 = some r),
  Calls Tryd.prog 23 #[.slice A0 l0.length c0, .slice A1 l1.length c1] w fun e w' => e = .returned (.bool r) ∧ Below w.heap.size w w'
abbrev laws_eqExpr.CallsAt (k : Nat) : Prop := ∀ (a0_0 : Int) (a0_1 : Int) (A0_2 : Option Addr) (c0_2 : Nat) (l0_2 : List (S29)) (a1_0 : Int) (a1_1 : Int) (A1_2 : Option Addr) (c1_2 : Nat) (l1_2 : List (S29)) (r : Bool) (w : World) (hr0_2 : Kd.C k29 w A0_2 l0_2.length l0_2) (hc0_2 : l0_2.length ≤ c0_2) (hr1_2 : Kd.C k29 w A1_2 l1_2.length l1_2) (hc1_2 : l1_2.length ≤ c1_2) (h : laws_eqExpr.f k a0_0 a0_1 l0_2 a1_0 a1_1 l1_2 = some r),
  Calls Tryd.prog 10 #[.agg #[.int .i64 a0_0, .int .i64 a0_1, .slice A0_2 l0_2.length c0_2], .agg #[.int .i64 a1_0, .int .i64 a1_1, .slice A1_2 l1_2.length c1_2]] w fun e w' => e = .returned (.bool r) ∧ Below w.heap.size w w'
def laws_eqExprS.T6 : Bool × List (List Nat × List Nat) := (true, [([], []), ([], []), ([0, 1], [0, 1]), ([2], [2]), ([], []), ([], []), ([4, 5], [4, 5]), ([6], [6]), ([3, 7], [3, 7]), ([8], [8])])
def laws_eqExprS.B6 : List Nat := [0, 0, 3, 7, 0, 0, 48, 112, 255, 511]
theorem laws_eqExprS.tab6 : rtab .any (opsOf Tryd.f23 6) = laws_eqExprS.T6 := by kernel_rfl
theorem laws_eqExprS.bits6 : waitsOk laws_eqExprS.T6.2 laws_eqExprS.B6 = true := by kernel_rfl
theorem laws_eqExprS.step (k : Nat) (ih_laws_eqExprS : ∀ m, m < k → laws_eqExprS.CallsAt m) (ih_laws_eqExpr : ∀ m, m < k → laws_eqExpr.CallsAt m) : laws_eqExprS.CallsAt k := by
 intro A0 c0 l0 A1 c1 l1 r w hr0 hc0 hr1 hc1 h
 cases k with
 | zero => exact absurd h (by simp [laws_eqExprS.f])
 | succ k =>
 simp only [laws_eqExprS.f] at h
 have hu29 := Tryd.underlying29
 have HR0 := am hr0
 have HC0 := am hc0
 clear hr0 hc0
 have HR1 := am hr1
 have HC1 := am hc1
 clear hr1 hc1
 have HB := am (Below.refl w.heap.size w)
 have H : (if (l0.length : Int) = (l1.length : Int) then (laws_eqExprS.l0 k l0 l1 0) else (some false)) = some r := h
 clear h
 by_cases c3 : (l0.length : Int) = (l1.length : Int)
 ·rw [if_pos c3] at H
  have c3b0 : ((l0.length : Int) == (l1.length : Int)) = true := beq_iff_eq.mpr c3
  have c3b1 : ((l0.length : Int) != (l1.length : Int)) = false := bne_eq_false_iff_eq.mpr c3
  have c3b2 : (l0.length == l1.length) = true := by first | simpa using c3 | (simp at c3 ⊢; omega)
  clear c3
  have H' := am H
  clear H
  go_enter Tryd.func23, Tryd.ntmps23
  go_wp2
  go_loopg [5] k (fun kq v5 w' => ∃ (x5_1 : Int), v5 = .int .i64 x5_1 ∧ Aside0 (laws_eqExprS.l0 kq l0 l1 x5_1 = some r) ∧ Aside0 (kq ≤ k) ∧ Aside0 (Below w.heap.size w w'))
  case atStart => exact ⟨(0), sd_, H', ⟨Nat.le_refl _⟩, ⟨ab2_⟩⟩
  case round =>
   clear H'
   try clear c1
   try clear c3
   try clear c3b0
   try clear c3b1
   try clear c3b2
   obtain ⟨x5_1, rfl, HA, HK1, HB⟩ := hrel
   cases gk with
   | zero => exact absurd HA.out (by simp [laws_eqExprS.l0])
   | succ k1 =>
    have H := HA.out
    clear HA
    simp only [laws_eqExprS.l0] at H
    by_cases c4 : x5_1 < (l0.length : Int)
    ·rw [if_pos c4] at H
     have c4b0 : decide (x5_1 < (l0.length : Int)) = true := decide_eq_true c4
     clear c4
     by_cases c5 : 0 ≤ x5_1
     ·rw [if_pos c5] at H
      have c5b0 : decide (0 ≤ x5_1) = true := decide_eq_true c5
      clear c5
      by_cases c6 : x5_1 < (l1.length : Int)
      ·rw [if_pos c6] at H
       have c6b0 : decide (x5_1 < (l1.length : Int)) = true := decide_eq_true c6
       clear c6
       obtain ⟨t27, A7, H⟩ := bsa H
       (try dsimp only at H)
       by_cases c8 : t27 = true
       ·subst c8
        rw [if_pos rfl] at H
        have H' := am H
        clear H
        try go_wp2
        replace HB := am (below_drew1 HB.out)
        have p28 : 0 ≤ (x5_1 : Int) := of_decide_eq_true asm_
        have q28 : x5_1 < (l0.length : Int) := of_decide_eq_true asm_
        obtain ⟨ad28, A28_2, c28_2, e28, hx28_0, hx28_1, hx28_2, hl28_2, hi28_2⟩ := at_T29 HR0.out x5_1 p28 q28
        have hw28_2 := hx28_2
        have hw28_1 := hx28_1
        have hw28_0 := hx28_0
        cases e28
        replace hx28_0 := (HB.out.cell (World.block_lt_of_cell? w _ hx28_0)).trans hx28_0
        replace hx28_1 := (HB.out.cell (World.block_lt_of_cell? w _ hx28_1)).trans hx28_1
        replace hx28_2 := (HB.out.cell (World.block_lt_of_cell? w _ hx28_2)).trans hx28_2
        have HR28_2 := am hi28_2
        have HC28_2 := am hl28_2
        clear hi28_2 hl28_2
        replace p28 := eq_true p28
        replace q28 := eq_true q28
        have p30 : 0 ≤ (x5_1 : Int) := of_decide_eq_true asm_
        have q30 : x5_1 < (l1.length : Int) := of_decide_eq_true asm_
        obtain ⟨ad30, A30_2, c30_2, e30, hx30_0, hx30_1, hx30_2, hl30_2, hi30_2⟩ := at_T29 HR1.out x5_1 p30 q30
        have hw30_2 := hx30_2
        have hw30_1 := hx30_1
        have hw30_0 := hx30_0
        cases e30
        replace hx30_0 := (HB.out.cell (World.block_lt_of_cell? w _ hx30_0)).trans hx30_0
        replace hx30_1 := (HB.out.cell (World.block_lt_of_cell? w _ hx30_1)).trans hx30_1
        replace hx30_2 := (HB.out.cell (World.block_lt_of_cell? w _ hx30_2)).trans hx30_2
        have HR30_2 := am hi30_2
        have HC30_2 := am hl30_2
        clear hi30_2 hl30_2
        replace p30 := eq_true p30
        replace q30 := eq_true q30
        refine start_ (n := 10) (S := fun w' => w'.cell? (ad28.add ((x5_1).toNat * 3)) = some (.int .i64 ((rd_T29 l0 x5_1).f0)) ∧ w'.cell? ⟨(ad28.add ((x5_1).toNat * 3)).block, (ad28.add ((x5_1).toNat * 3)).off + 1, none⟩ = some (.int .i64 ((rd_T29 l0 x5_1).f1)) ∧ w'.cell? ⟨(ad28.add ((x5_1).toNat * 3)).block, (ad28.add ((x5_1).toNat * 3)).off + 2, none⟩ = some (.slice A28_2 ((rd_T29 l0 x5_1).f2).length c28_2) ∧ w'.cell? (ad30.add ((x5_1).toNat * 3)) = some (.int .i64 ((rd_T29 l1 x5_1).f0)) ∧ w'.cell? ⟨(ad30.add ((x5_1).toNat * 3)).block, (ad30.add ((x5_1).toNat * 3)).off + 1, none⟩ = some (.int .i64 ((rd_T29 l1 x5_1).f1)) ∧ w'.cell? ⟨(ad30.add ((x5_1).toNat * 3)).block, (ad30.add ((x5_1).toNat * 3)).off + 2, none⟩ = some (.slice A30_2 ((rd_T29 l1 x5_1).f2).length c30_2)) (ds := []) (bz 10 0) (by kernel_rfl) rfl rfl ⟨((HB.out.cell (World.block_lt_of_cell? w _ hw28_0)).trans hw28_0), ((HB.out.cell (World.block_lt_of_cell? w _ hw28_1)).trans hw28_1), ((HB.out.cell (World.block_lt_of_cell? w _ hw28_2)).trans hw28_2), ((HB.out.cell (World.block_lt_of_cell? w _ hw30_0)).trans hw30_0), ((HB.out.cell (World.block_lt_of_cell? w _ hw30_1)).trans hw30_1), ((HB.out.cell (World.block_lt_of_cell? w _ hw30_2)).trans hw30_2)⟩ (fun hHeld => ?_); refine with_tabW laws_eqExprS.tab6 laws_eqExprS.bits6 (fun HT_ HW_ => ?_)
        generalize wr.drew = w9 at HB HR28_2 HR30_2 hx28_0 hx28_1 hx28_2 hx30_0 hx30_1 hx30_2 hHeld ⊢
        refine pr_ 0 17 (bz 10 1) HT_ ?_
        refine pr_ 1 18 (bz 10 3) HT_ ?_
        refine pr_ 2 19 (bz 10 7) HT_ ?_
        refine pr_ 4 21 (bz 10 23) HT_ ?_
        refine pr_ 5 22 (bz 10 55) HT_ ?_
        refine pr_ 6 23 (bz 10 119) HT_ ?_
        refine tk6_ 3 20 (bz 10 127) HT_ HW_ hHeld ?_
        refine tk6_ 7 24 (bz 10 255) HT_ HW_ hHeld ?_
        refine one_ (i := 8) (N := some 25) (bz 10 511) rfl rfl (one_of HT_.out (by kernel_rfl)) (by decide) (fun K hK => ?_)
        refine goes_ Tryd.func10 (by kernel_rfl) rfl #[.agg #[.int .i64 ((rd_T29 l0 x5_1).f0), .int .i64 ((rd_T29 l0 x5_1).f1), .slice A28_2 ((rd_T29 l0 x5_1).f2).length c28_2], .agg #[.int .i64 ((rd_T29 l1 x5_1).f0), .int .i64 ((rd_T29 l1 x5_1).f1), .slice A30_2 ((rd_T29 l1 x5_1).f2).length c30_2]] (by rfl) rfl rfl ab1_ ?_
        with_reducible refine (ih_laws_eqExpr k1 (by have := HK1.out; omega) ((rd_T29 l0 x5_1).f0) ((rd_T29 l0 x5_1).f1) _ _ ((rd_T29 l0 x5_1).f2) ((rd_T29 l1 x5_1).f0) ((rd_T29 l1 x5_1).f1) _ _ ((rd_T29 l1 x5_1).f2) true _ (aC_ (Kd.C_below HR28_2.out HB.out)) HC28_2.out (aC_ (Kd.C_below HR30_2.out HB.out)) HC30_2.out A7.out).mono ?_
        rintro e w10 ⟨rfl, hb⟩
        refine ⟨_, rfl, ?_⟩
        replace HB := am (below_step ab2_ hb)
        (try clear hb)
        (try clear hb2)
        (try clear hk)
        (try clear hi)
        refine hK.out _ _ ⟨((HB.out.cell (World.block_lt_of_cell? w _ hw28_0)).trans hw28_0), ((HB.out.cell (World.block_lt_of_cell? w _ hw28_1)).trans hw28_1), ((HB.out.cell (World.block_lt_of_cell? w _ hw28_2)).trans hw28_2), ((HB.out.cell (World.block_lt_of_cell? w _ hw30_0)).trans hw30_0), ((HB.out.cell (World.block_lt_of_cell? w _ hw30_1)).trans hw30_1), ((HB.out.cell (World.block_lt_of_cell? w _ hw30_2)).trans hw30_2)⟩ (fun hHeld => ?_)
        clear hK K
        refine norm_ (a' := ?_) ?_ ?_
        rotate_left
        ·show Act.put _ (some 25) _ = _
         simp only [Act.put, List.setIfInBounds_toArray, List.set_cons_zero, List.set_cons_succ, i64_w, i32_w]
         rfl
        refine pr_ 9 26 (bz 10 1023) HT_ ?_
        refine done_ (done_of HT_.out (by kernel_rfl)) ?_
        try go_wp2
        go_roundg k1
        case measure => have := HK1.out; omega
        case rel => exact ⟨(wrap64 (x5_1 + 1)), sd_, H', ⟨by have := HK1.out; omega⟩, ⟨ab2_⟩⟩
       replace c8 := Bool.eq_false_iff.mpr c8
       subst c8
       rw [if_neg (show ¬ (false = true) by decide)] at H
       obtain rfl := Option.some.inj H
       try go_wp2
       replace HB := am (below_drew1 HB.out)
       have p28 : 0 ≤ (x5_1 : Int) := of_decide_eq_true asm_
       have q28 : x5_1 < (l0.length : Int) := of_decide_eq_true asm_
       obtain ⟨ad28, A28_2, c28_2, e28, hx28_0, hx28_1, hx28_2, hl28_2, hi28_2⟩ := at_T29 HR0.out x5_1 p28 q28
       have hw28_2 := hx28_2
       have hw28_1 := hx28_1
       have hw28_0 := hx28_0
       cases e28
       replace hx28_0 := (HB.out.cell (World.block_lt_of_cell? w _ hx28_0)).trans hx28_0
       replace hx28_1 := (HB.out.cell (World.block_lt_of_cell? w _ hx28_1)).trans hx28_1
       replace hx28_2 := (HB.out.cell (World.block_lt_of_cell? w _ hx28_2)).trans hx28_2
       have HR28_2 := am hi28_2
       have HC28_2 := am hl28_2
       clear hi28_2 hl28_2
       replace p28 := eq_true p28
       replace q28 := eq_true q28
       have p30 : 0 ≤ (x5_1 : Int) := of_decide_eq_true asm_
       have q30 : x5_1 < (l1.length : Int) := of_decide_eq_true asm_
       obtain ⟨ad30, A30_2, c30_2, e30, hx30_0, hx30_1, hx30_2, hl30_2, hi30_2⟩ := at_T29 HR1.out x5_1 p30 q30
       have hw30_2 := hx30_2
       have hw30_1 := hx30_1
       have hw30_0 := hx30_0
       cases e30
       replace hx30_0 := (HB.out.cell (World.block_lt_of_cell? w _ hx30_0)).trans hx30_0
       replace hx30_1 := (HB.out.cell (World.block_lt_of_cell? w _ hx30_1)).trans hx30_1
       replace hx30_2 := (HB.out.cell (World.block_lt_of_cell? w _ hx30_2)).trans hx30_2
       have HR30_2 := am hi30_2
       have HC30_2 := am hl30_2
       clear hi30_2 hl30_2
       replace p30 := eq_true p30
       replace q30 := eq_true q30
       refine start_ (n := 10) (S := fun w' => w'.cell? (ad28.add ((x5_1).toNat * 3)) = some (.int .i64 ((rd_T29 l0 x5_1).f0)) ∧ w'.cell? ⟨(ad28.add ((x5_1).toNat * 3)).block, (ad28.add ((x5_1).toNat * 3)).off + 1, none⟩ = some (.int .i64 ((rd_T29 l0 x5_1).f1)) ∧ w'.cell? ⟨(ad28.add ((x5_1).toNat * 3)).block, (ad28.add ((x5_1).toNat * 3)).off + 2, none⟩ = some (.slice A28_2 ((rd_T29 l0 x5_1).f2).length c28_2) ∧ w'.cell? (ad30.add ((x5_1).toNat * 3)) = some (.int .i64 ((rd_T29 l1 x5_1).f0)) ∧ w'.cell? ⟨(ad30.add ((x5_1).toNat * 3)).block, (ad30.add ((x5_1).toNat * 3)).off + 1, none⟩ = some (.int .i64 ((rd_T29 l1 x5_1).f1)) ∧ w'.cell? ⟨(ad30.add ((x5_1).toNat * 3)).block, (ad30.add ((x5_1).toNat * 3)).off + 2, none⟩ = some (.slice A30_2 ((rd_T29 l1 x5_1).f2).length c30_2)) (ds := []) (bz 10 0) (by kernel_rfl) rfl rfl ⟨((HB.out.cell (World.block_lt_of_cell? w _ hw28_0)).trans hw28_0), ((HB.out.cell (World.block_lt_of_cell? w _ hw28_1)).trans hw28_1), ((HB.out.cell (World.block_lt_of_cell? w _ hw28_2)).trans hw28_2), ((HB.out.cell (World.block_lt_of_cell? w _ hw30_0)).trans hw30_0), ((HB.out.cell (World.block_lt_of_cell? w _ hw30_1)).trans hw30_1), ((HB.out.cell (World.block_lt_of_cell? w _ hw30_2)).trans hw30_2)⟩ (fun hHeld => ?_); refine with_tabW laws_eqExprS.tab6 laws_eqExprS.bits6 (fun HT_ HW_ => ?_)
       generalize wr.drew = w11 at HB HR28_2 HR30_2 hx28_0 hx28_1 hx28_2 hx30_0 hx30_1 hx30_2 hHeld ⊢
       refine pr_ 0 17 (bz 10 1) HT_ ?_
       refine pr_ 1 18 (bz 10 3) HT_ ?_
       refine pr_ 2 19 (bz 10 7) HT_ ?_
       refine pr_ 4 21 (bz 10 23) HT_ ?_
       refine pr_ 5 22 (bz 10 55) HT_ ?_
       refine pr_ 6 23 (bz 10 119) HT_ ?_
       refine tk6_ 3 20 (bz 10 127) HT_ HW_ hHeld ?_
       refine tk6_ 7 24 (bz 10 255) HT_ HW_ hHeld ?_
       refine one_ (i := 8) (N := some 25) (bz 10 511) rfl rfl (one_of HT_.out (by kernel_rfl)) (by decide) (fun K hK => ?_)
       refine goes_ Tryd.func10 (by kernel_rfl) rfl #[.agg #[.int .i64 ((rd_T29 l0 x5_1).f0), .int .i64 ((rd_T29 l0 x5_1).f1), .slice A28_2 ((rd_T29 l0 x5_1).f2).length c28_2], .agg #[.int .i64 ((rd_T29 l1 x5_1).f0), .int .i64 ((rd_T29 l1 x5_1).f1), .slice A30_2 ((rd_T29 l1 x5_1).f2).length c30_2]] (by rfl) rfl rfl ab1_ ?_
       with_reducible refine (ih_laws_eqExpr k1 (by have := HK1.out; omega) ((rd_T29 l0 x5_1).f0) ((rd_T29 l0 x5_1).f1) _ _ ((rd_T29 l0 x5_1).f2) ((rd_T29 l1 x5_1).f0) ((rd_T29 l1 x5_1).f1) _ _ ((rd_T29 l1 x5_1).f2) false _ (aC_ (Kd.C_below HR28_2.out HB.out)) HC28_2.out (aC_ (Kd.C_below HR30_2.out HB.out)) HC30_2.out A7.out).mono ?_
       rintro e w12 ⟨rfl, hb⟩
       refine ⟨_, rfl, ?_⟩
       replace HB := am (below_step ab2_ hb)
       (try clear hb)
       (try clear hb2)
       (try clear hk)
       (try clear hi)
       refine hK.out _ _ ⟨((HB.out.cell (World.block_lt_of_cell? w _ hw28_0)).trans hw28_0), ((HB.out.cell (World.block_lt_of_cell? w _ hw28_1)).trans hw28_1), ((HB.out.cell (World.block_lt_of_cell? w _ hw28_2)).trans hw28_2), ((HB.out.cell (World.block_lt_of_cell? w _ hw30_0)).trans hw30_0), ((HB.out.cell (World.block_lt_of_cell? w _ hw30_1)).trans hw30_1), ((HB.out.cell (World.block_lt_of_cell? w _ hw30_2)).trans hw30_2)⟩ (fun hHeld => ?_)
       clear hK K
       refine norm_ (a' := ?_) ?_ ?_
       rotate_left
       ·show Act.put _ (some 25) _ = _
        simp only [Act.put, List.setIfInBounds_toArray, List.set_cons_zero, List.set_cons_succ, i64_w, i32_w]
        rfl
       refine pr_ 9 26 (bz 10 1023) HT_ ?_
       refine done_ (done_of HT_.out (by kernel_rfl)) ?_
       try go_wp2
       go_ret
       exact ⟨rr_, ab2_⟩
      rw [if_neg c6] at H
      exact absurd H (by simp)
     rw [if_neg c5] at H
     exact absurd H (by simp)
    rw [if_neg c4] at H
    have c4b0 : decide (x5_1 < (l0.length : Int)) = false := decide_eq_false c4
    clear c4
    obtain rfl := Option.some.inj H
    go_wp2
    go_ret
    exact ⟨rr_, ab2_⟩
 rw [if_neg c3] at H
 have c3b0 : ((l0.length : Int) == (l1.length : Int)) = false := beq_eq_false_iff_ne.mpr c3
 have c3b1 : ((l0.length : Int) != (l1.length : Int)) = true := bne_iff_ne.mpr c3
 have c3b2 : (l0.length == l1.length) = false := by first | simpa using c3 | (simp at c3 ⊢; omega)
 obtain rfl := Option.some.inj H
 go_enter Tryd.func23, Tryd.ntmps23
 go_wp2
 go_ret
 exact ⟨rr_, ab2_⟩
theorem laws_eqExpr.step (k : Nat) (ih_laws_eqExprS : ∀ m, m < k → laws_eqExprS.CallsAt m) (ih_laws_eqExpr : ∀ m, m < k → laws_eqExpr.CallsAt m) : laws_eqExpr.CallsAt k := by
 intro a0_0 a0_1 A0_2 c0_2 l0_2 a1_0 a1_1 A1_2 c1_2 l1_2 r w hr0_2 hc0_2 hr1_2 hc1_2 h
 cases k with
 | zero => exact absurd h (by simp [laws_eqExpr.f])
 | succ k =>
 simp only [laws_eqExpr.f] at h
 have hu29 := Tryd.underlying29
 have HR0_2 := am hr0_2
 have HC0_2 := am hc0_2
 clear hr0_2 hc0_2
 have HR1_2 := am hr1_2
 have HC1_2 := am hc1_2
 clear hr1_2 hc1_2
 have HB := am (Below.refl w.heap.size w)
 have H : (if a0_0 = a1_0 then (if a0_1 = a1_1 then ((laws_eqExprS.f k l0_2 l1_2).bind fun t20 => (if t20 = true then (some true) else (some false))) else (some false)) else (some false)) = some r := h
 clear h
 have HH_ := am H
 clear H
 go_enter Tryd.func10, Tryd.ntmps10
 go_upto_region 1 with (first | ((with_reducible refine gate_dst (N := 2) rfl ?_); refine box_event rfl (N := 2) rfl (cs := #[.int .i64 a0_0, .int .i64 a0_1, .slice A0_2 l0_2.length c0_2]) (t := 29) rn_ ?_; intro gb21 hg w7 hbox hb; have BK21 := am (hbox); have GW21 := am ((by rw [hg]; exact (below_size ab2_) : w.heap.size ≤ gb21)); have GE21 := am ((by rw [hg]; exact (below_size ab2_) : w.heap.size ≤ gb21)); replace HB := am (below_step ab2_ hb); clear hb hbox hg) | ((with_reducible refine gate_dst (N := 3) rfl ?_); refine box_event rfl (N := 3) rfl (cs := #[.int .i64 a1_0, .int .i64 a1_1, .slice A1_2 l1_2.length c1_2]) (t := 29) rn_ ?_; intro gb22 hg w8 hbox hb; have BK22 := am (hbox); have GW22 := am ((by rw [hg]; exact (below_size ab18_) : w.heap.size ≤ gb22)); have GE22 := am ((by rw [hg]; exact (below_size ab18_) : w.heap.size ≤ gb22)); replace HB := am (below_step ab18_ hb); have NB21_22 := am ((by rw [hg]; exact Nat.ne_of_lt (blt_ BK21.out) : gb21 ≠ gb22)); have NB22_21 := am ((by rw [hg]; exact Nat.ne_of_gt (blt_ BK21.out) : gb22 ≠ gb21)); replace BK21 := am (bbl_ BK21.out hb); clear hb hbox hg; have hnb9 := NB21_22.out; have hnc9 := NB22_21.out; obtain ⟨hcz10_0, hcz10_1, hcz10_2, hfz10_0, hfz10_1, hfz10_2⟩ := bcf3_ BK21.out; obtain ⟨hcz11_0, hcz11_1, hcz11_2, hfz11_0, hfz11_1, hfz11_2⟩ := bcf3_ BK22.out))
 have H := HH_.out
 clear HH_
 by_cases c3 : a0_0 = a1_0
 ·rw [if_pos c3] at H
  have c3b0 : (a0_0 == a1_0) = true := beq_iff_eq.mpr c3
  have c3b1 : (a0_0 != a1_0) = false := bne_eq_false_iff_eq.mpr c3
  clear c3
  by_cases c4 : a0_1 = a1_1
  ·rw [if_pos c4] at H
   have c4b0 : (a0_1 == a1_1) = true := beq_iff_eq.mpr c4
   have c4b1 : (a0_1 != a1_1) = false := bne_eq_false_iff_eq.mpr c4
   clear c4
   obtain ⟨t20, A5, H⟩ := bsa H
   (try dsimp only at H)
   by_cases c6 : t20 = true
   ·subst c6
    rw [if_pos rfl] at H
    obtain rfl := Option.some.inj H
    go_wp2_with (first | ((with_reducible refine gate_callee (f := 23) rfl ?_); refine gl_ 19 Tryd.func23 #[.slice A0_2 l0_2.length c0_2, .slice A1_2 l1_2.length c1_2] ?_; (with_reducible refine (ih_laws_eqExprS k (by omega) _ _ l0_2 _ _ l1_2 true _ (aC_ (Kd.C_below HR0_2.out HB.out)) HC0_2.out (aC_ (Kd.C_below HR1_2.out HB.out)) HC1_2.out A5.out).mono ?_); rintro e w12 ⟨rfl, hb⟩; refine ⟨_, rfl, ?_⟩; replace BK21 := am (bbl_ BK21.out hb); replace BK22 := am (bbl_ BK22.out hb); replace HB := am (below_step ab29_ hb); (try clear hb)))
    go_ret
    exact ⟨rr_, ab29_⟩
   replace c6 := Bool.eq_false_iff.mpr c6
   subst c6
   rw [if_neg (show ¬ (false = true) by decide)] at H
   obtain rfl := Option.some.inj H
   go_wp2_with (first | ((with_reducible refine gate_callee (f := 23) rfl ?_); refine gl_ 19 Tryd.func23 #[.slice A0_2 l0_2.length c0_2, .slice A1_2 l1_2.length c1_2] ?_; (with_reducible refine (ih_laws_eqExprS k (by omega) _ _ l0_2 _ _ l1_2 false _ (aC_ (Kd.C_below HR0_2.out HB.out)) HC0_2.out (aC_ (Kd.C_below HR1_2.out HB.out)) HC1_2.out A5.out).mono ?_); rintro e w18 ⟨rfl, hb⟩; refine ⟨_, rfl, ?_⟩; replace BK21 := am (bbl_ BK21.out hb); replace BK22 := am (bbl_ BK22.out hb); replace HB := am (below_step ab29_ hb); (try clear hb)))
   go_ret
   exact ⟨rr_, ab29_⟩
  rw [if_neg c4] at H
  have c4b0 : (a0_1 == a1_1) = false := beq_eq_false_iff_ne.mpr c4
  have c4b1 : (a0_1 != a1_1) = true := bne_iff_ne.mpr c4
  obtain rfl := Option.some.inj H
  go_wp2
  go_ret
  exact ⟨rr_, ab29_⟩
 rw [if_neg c3] at H
 have c3b0 : (a0_0 == a1_0) = false := beq_eq_false_iff_ne.mpr c3
 have c3b1 : (a0_0 != a1_0) = true := bne_iff_ne.mpr c3
 obtain rfl := Option.some.inj H
 go_wp2
 go_ret
 exact ⟨rr_, ab29_⟩
theorem laws_eqExprS.calls_all (k : Nat) : laws_eqExprS.CallsAt k ∧ laws_eqExpr.CallsAt k := by
 induction k using Nat.strongRecOn with
 | _ k ih => exact ⟨laws_eqExprS.step k (ih_laws_eqExprS := fun m hm => (ih m hm).1) (ih_laws_eqExpr := fun m hm => (ih m hm).2), laws_eqExpr.step k (ih_laws_eqExprS := fun m hm => (ih m hm).1) (ih_laws_eqExpr := fun m hm => (ih m hm).2)⟩
theorem laws_eqExprS.calls (k : Nat) : laws_eqExprS.CallsAt k := (laws_eqExprS.calls_all k).1
theorem laws_eqExpr.calls (k : Nat) : laws_eqExpr.CallsAt k := (laws_eqExprS.calls_all k).2
theorem laws_FnExactExprText.mono : ∀ a0 a1 a2 k, LeO (laws_FnExactExprText.f k a0 a1 a2) (laws_FnExactExprText.f (k + 1) a0 a1 a2) := by
 intro a0 a1 a2 k
 unfold laws_FnExactExprText.f
 have m0 := @impl_ExprText.mono
 have m1 := @laws_eqExpr.mono
 have m2 := @laws_szExpr.mono
 have m3 := @laws_toExpr.mono
 have m4 := @spec_ExprText.mono
 exact mo_
theorem laws_FnExactExprText.calls (k : Nat) (a0_0 : Int) (a0_1 : Int) (A0_2 : Option Addr) (c0_2 : Nat) (l0_2 : List (S24)) (r : Bool) (w : World) (hr0_2 : Kd.C k24 w A0_2 l0_2.length l0_2) (hc0_2 : l0_2.length ≤ c0_2) (ht_ : Tab w) (h : laws_FnExactExprText.f k a0_0 a0_1 l0_2 = some r) :
  Calls Tryd.prog 3 #[.agg #[.int .i64 a0_0, .int .i64 a0_1, .slice A0_2 l0_2.length c0_2]] w fun e w' => e = .returned (.bool r) ∧ Below w.heap.size w w' := by
 have hu24 := Tryd.underlying24
 have hu29 := Tryd.underlying29
 have HR0_2 := am hr0_2
 have HC0_2 := am hc0_2
 clear hr0_2 hc0_2
 have HB := am (Below.refl w.heap.size w)
 have H : ((laws_szExpr.f k a0_0 a0_1 l0_2 1048576).bind fun t33 => (if t33 < 0 then (some true) else ((laws_toExpr.f k a0_0 a0_1 l0_2).bind fun bt34 => ((spec_ExprText.f k bt34.1 bt34.2.1 bt34.2.2).bind fun t35 => ((laws_toExpr.f k a0_0 a0_1 l0_2).bind fun bt51 => ((impl_ExprText.f k bt51.1 bt51.2.1 bt51.2.2).bind fun t52 => (if t52.toList = t35.toList then ((laws_toExpr.f k a0_0 a0_1 l0_2).bind fun bt53 => ((laws_eqExpr.f k bt51.1 bt51.2.1 bt51.2.2 bt53.1 bt53.2.1 bt53.2.2).bind fun t65 => (if t65 = true then (some true) else (some false)))) else (some false)))))))) = some r := h
 clear h
 obtain ⟨t33, A2, H⟩ := bsa H
 (try dsimp only at H)
 have HH_ := am H
 clear H
 go_enter Tryd.func3, Tryd.ntmps3
 go_upto_region 3 with (first | ((with_reducible refine gate_dst (N := 1) rfl ?_); refine box_event rfl (N := 1) rfl (cs := #[.int .i64 a0_0, .int .i64 a0_1, .slice A0_2 l0_2.length c0_2]) (t := 24) rn_ ?_; intro gb66 hg w4 hbox hb; have BK66 := am (hbox); have GW66 := am ((by rw [hg]; exact (below_size ab2_) : w.heap.size ≤ gb66)); have GE66 := am ((by rw [hg]; exact (below_size ab2_) : w.heap.size ≤ gb66)); replace HB := am (below_step ab2_ hb); clear hb hbox hg; obtain ⟨hcz5_0, hcz5_1, hcz5_2, hfz5_0, hfz5_1, hfz5_2⟩ := bcf3_ BK66.out) | ((with_reducible refine gate_callee (f := 6) rfl ?_); refine gl_ 9 Tryd.func6 #[.agg #[.int .i64 a0_0, .int .i64 a0_1, .slice A0_2 l0_2.length c0_2], .int .i64 1048576] ?_; (with_reducible refine (laws_szExpr.calls k a0_0 a0_1 _ _ l0_2 1048576 t33 _ (aC_ (Kd.C_below HR0_2.out HB.out)) HC0_2.out A2.out).mono ?_); rintro e w6 ⟨rfl, hb⟩; refine ⟨_, rfl, ?_⟩; replace BK66 := am (bbl_ BK66.out hb); replace HB := am (below_step ab7_ hb); (try clear hb)))
 have H := HH_.out
 clear HH_
 by_cases c3 : t33 < 0
 ·rw [if_pos c3] at H
  have c3b0 : decide (t33 < 0) = true := decide_eq_true c3
  clear c3
  obtain rfl := Option.some.inj H
  go_wp2
  go_ret
  exact ⟨rr_, ab7_⟩
 rw [if_neg c3] at H
 have c3b0 : decide (t33 < 0) = false := decide_eq_false c3
 clear c3
 obtain ⟨⟨t34, t67, t68⟩, A7, H⟩ := bsa H
 (try dsimp only at H)
 obtain ⟨t35, A8, H⟩ := bsa H
 (try dsimp only at H)
 obtain ⟨⟨t51, t69, t71⟩, A9, H⟩ := bsa H
 (try dsimp only at H)
 obtain ⟨t52, A72, H⟩ := bsm H
 (try dsimp only at H)
 have A10 := am A72
 clear A72
 by_cases c11 : t52.toList = t35.toList
 ·rw [if_pos c11] at H
  have c11b0 : (t52.toList == t35.toList) = true := beq_iff_eq.mpr c11
  have c11b1 : (t52.toList != t35.toList) = false := bne_eq_false_iff_eq.mpr c11
  clear c11
  obtain ⟨⟨t53, t73, t74⟩, A75, H⟩ := bsm H
  (try dsimp only at H)
  have A12 := am A75
  clear A75
  obtain ⟨t65, A76, H⟩ := bsm H
  (try dsimp only at H)
  have A13 := am A76
  clear A76
  by_cases c14 : t65 = true
  ·subst c14
   rw [if_pos rfl] at H
   obtain rfl := Option.some.inj H
   obtain ⟨hcz18_0, hcz18_1, hcz18_2, hfz18_0, hfz18_1, hfz18_2⟩ := bcf3_ BK66.out
   try go_wp2_with (first | ((with_reducible refine gate_callee (f := 8) rfl ?_); refine gl_ 13 Tryd.func8 #[.agg #[.int .i64 a0_0, .int .i64 a0_1, .slice A0_2 l0_2.length c0_2]] ?_; (with_reducible refine (laws_toExpr.calls k a0_0 a0_1 _ _ l0_2 t34 t67 t68 _ (aC_ (Kd.C_below HR0_2.out HB.out)) HC0_2.out A7.out).mono ?_); rintro e w19 ⟨v77, rfl, ho0, hb⟩; refine ⟨_, rfl, ?_⟩; have HO78 := am (Kd.R_lower ho0 (below_size ab7_)); replace BK66 := am (bbl_ BK66.out hb); replace HB := am (below_step ab7_ hb); (try clear hb); (try clear ho0); obtain ⟨Ao20, co20, eo20⟩ := Kd.R_slice HO78.out; subst eo20) | ((with_reducible refine gate_callee (f := 7) rfl ?_); refine gl_ 14 Tryd.func7 #[.agg #[.int .i64 t34, .int .i64 t67, .slice Ao20 t68.length co20]] ?_; (with_reducible refine (spec_ExprText.calls k t34 t67 _ _ t68 t35 _ (aC_ (Kd.R_reads' HO78.out).2.2) (Kd.R_reads' HO78.out).2.1 A8.out).mono ?_); rintro e w21 ⟨rfl, hb⟩; refine ⟨_, rfl, ?_⟩; replace HO78 := am (Kd.R_below (aR_ HO78.out) hb); replace BK66 := am (bbl_ BK66.out hb); replace HB := am (below_step ab7_ hb); (try clear hb); obtain ⟨hcz22_0, hcz22_1, hcz22_2, hfz22_0, hfz22_1, hfz22_2⟩ := bcf3_ BK66.out) | ((with_reducible refine gate_callee (f := 8) rfl ?_); refine gl_ 16 Tryd.func8 #[.agg #[.int .i64 a0_0, .int .i64 a0_1, .slice A0_2 l0_2.length c0_2]] ?_; (with_reducible refine (laws_toExpr.calls k a0_0 a0_1 _ _ l0_2 t51 t69 t71 _ (aC_ (Kd.C_below HR0_2.out HB.out)) HC0_2.out A9.out).mono ?_); rintro e w23 ⟨v79, rfl, ho0, hb⟩; refine ⟨_, rfl, ?_⟩; have HO81 := am (Kd.R_lower (Kd.R_new' ho0 (Kd.R_lt (aR_ HO78.out))) (below_size ab7_)); replace HO78 := am (Kd.R_elder' (aR_ HO78.out) (Kd.R_base ho0) hb); replace BK66 := am (bbl_ BK66.out hb); replace HB := am (below_step ab7_ hb); (try clear hb); (try clear ho0)) | ((with_reducible refine gate_dst (N := 5) rfl ?_); refine box_event rfl (N := 5) rfl (cs := #[.int .i64 0, .int .i64 0, .slice none 0 0]) (t := 29) rn_ ?_; intro gb82 hg w24 hbox hb; replace HO78 := am (Kd.R_below (Kd.R_elderB (aR_ HO78.out) gb82 (Nat.le_of_eq hg.symm)) hb); replace HO81 := am (Kd.R_below (Kd.R_elderB (aR_ HO81.out) gb82 (Nat.le_of_eq hg.symm)) hb); have BK82 := am (hbox); have GW82 := am ((by rw [hg]; exact (below_size ab7_) : w.heap.size ≤ gb82)); have GE82 := am ((by rw [hg]; exact (below_size ab7_) : w.heap.size ≤ gb82)); replace HB := am (below_step ab7_ hb); have NB66_82 := am ((by rw [hg]; exact Nat.ne_of_lt (blt_ BK66.out) : gb66 ≠ gb82)); have NB82_66 := am ((by rw [hg]; exact Nat.ne_of_gt (blt_ BK66.out) : gb82 ≠ gb66)); replace BK66 := am (bbl_ BK66.out hb); clear hb hbox hg; have hnb25 := NB82_66.out; have hnc25 := NB66_82.out; obtain ⟨hcz26_0, hcz26_1, hcz26_2, hfz26_0, hfz26_1, hfz26_2⟩ := bcf3_ BK82.out; obtain ⟨Ao27, co27, eo27⟩ := Kd.R_slice HO81.out; subst eo27) | ((with_reducible refine gate_callee (f := 9) rfl ?_); refine gl_ 18 Tryd.func9 #[.agg #[.int .i64 t51, .int .i64 t69, .slice Ao27 t71.length co27]] ?_; (with_reducible refine (impl_ExprText.calls k t51 t69 _ _ t71 t52 _ ?side1 (Kd.R_reads' HO81.out).2.1 ?sideT A10.out).mono ?_); (case sideT => first | exact ht_ | exact Tab.below ht_ HB.out | exact Tab.below ht_ ab12_); (case side1 => refine (Kd.R_reads' (e := 29) (base := w.heap.size) (ok := fun k_ => ((True ∧ some k_ ≠ (.slice Ao20 t68.length co20 : Value).ownBlock) ∧ k_ ≠ gb82)) (n := t71.length) (c := co27) ?_).2.2; exact (aRw_ ((Kd.R_mono (Kd.R_far (p := ⟨gb82, 2, none⟩) (Kd.R_far (p := ⟨gb82, 1, none⟩) (Kd.R_far (p := ⟨gb82, 0, none⟩) (Kd.R_mono HO81.out (fun k_ hk => (⟨hk, hk.2⟩ : _ ∧ k_ ≠ gb82))) (fun _ hk => hk.2) (.int .i64 t51)) (fun _ hk => hk.2) (.int .i64 t69)) (fun _ hk => hk.2) (.slice Ao27 t71.length co27)) (fun _ h_ => h_.1))))); rintro e w28 ⟨rfl, hb⟩; refine ⟨_, rfl, ?_⟩; replace HO78 := am (Kd.R_below (aRw_ ((Kd.R_mono (Kd.R_far (p := ⟨gb82, 2, none⟩) (Kd.R_far (p := ⟨gb82, 1, none⟩) (Kd.R_far (p := ⟨gb82, 0, none⟩) (Kd.R_mono HO78.out (fun k_ hk => (⟨hk, hk.2⟩ : _ ∧ k_ ≠ gb82))) (fun _ hk => hk.2) (.int .i64 t51)) (fun _ hk => hk.2) (.int .i64 t69)) (fun _ hk => hk.2) (.slice Ao27 t71.length co27)) (fun _ h_ => h_.1)))) hb); replace HO81 := am (Kd.R_below (aRw_ ((Kd.R_mono (Kd.R_far (p := ⟨gb82, 2, none⟩) (Kd.R_far (p := ⟨gb82, 1, none⟩) (Kd.R_far (p := ⟨gb82, 0, none⟩) (Kd.R_mono HO81.out (fun k_ hk => (⟨hk, hk.2⟩ : _ ∧ k_ ≠ gb82))) (fun _ hk => hk.2) (.int .i64 t51)) (fun _ hk => hk.2) (.int .i64 t69)) (fun _ hk => hk.2) (.slice Ao27 t71.length co27)) (fun _ h_ => h_.1)))) hb); replace BK66 := am (blk_below (g := gb66) (o := .cells #[.int .i64 a0_0, .int .i64 a0_1, .slice A0_2 l0_2.length c0_2] 24 (0, 0)) (blk_far (blk_far (blk_far BK66.out NB66_82.out _) NB66_82.out _) NB66_82.out _) hb); replace BK82 := am (blk_below (g := gb82) (o := .cells #[.int .i64 t51, .int .i64 t69, .slice Ao27 t71.length co27] 29 (0, 0)) (blk_put (blk_put (blk_put BK82.out 0 _ rfl) 1 _ rfl) 2 _ rfl) hb); replace HB := am (below_step ab12_ hb); (try clear hb)))
   replace HO78 := am (Kd.R_drew HO78.out)
   replace HO81 := am (Kd.R_drew HO81.out)
   replace BK66 := am (blk_drew BK66.out)
   replace BK82 := am (blk_drew BK82.out)
   replace HB := am (below_drew1 HB.out)
   refine start_ (n := 5) (S := fun w' => w'.cell? ⟨gb82, 0, none⟩ = some (.int .i64 t51) ∧ w'.cell? ⟨gb82, 1, none⟩ = some (.int .i64 t69) ∧ w'.cell? ⟨gb82, 2, none⟩ = some (.slice Ao27 t71.length co27) ∧ w'.cell? ⟨gb66, 0, none⟩ = some (.int .i64 a0_0) ∧ w'.cell? ⟨gb66, 1, none⟩ = some (.int .i64 a0_1) ∧ w'.cell? ⟨gb66, 2, none⟩ = some (.slice A0_2 l0_2.length c0_2)) (ds := []) (bz 5 0) (by kernel_rfl) rfl rfl ⟨(blk_cell BK82.out 0).trans rfl, (blk_cell BK82.out 1).trans rfl, (blk_cell BK82.out 2).trans rfl, (blk_cell BK66.out 0).trans rfl, (blk_cell BK66.out 1).trans rfl, (blk_cell BK66.out 2).trans rfl⟩ (fun hHeld => ?_)
   generalize w28.drew = w29 at HO78 HO81 BK66 BK82 HB hHeld ⊢
   refine take_ (i := 0) (N := some 22) (v := ?_) (a' := ?_) (bz 5 1) rfl rfl (by kernel_rfl) (fun _ _ _ h => h) (Or.inl ⟨by rfl, ?_⟩) hHeld ?_ ?_
   rotate_left
   ·rintro w' ⟨s0, s1, s2, s3, s4, s5⟩
    go_simp
    with_reducible rfl
   rotate_left
   ·simp only [Act.put, List.setIfInBounds_toArray, List.set_cons_zero, List.set_cons_succ, i64_w, i32_w]
    rfl
   refine take_ (i := 1) (N := some 23) (v := ?_) (a' := ?_) (bz 5 3) rfl rfl (by kernel_rfl) (fun _ _ _ h => h) (Or.inl ⟨by rfl, ?_⟩) hHeld ?_ ?_
   rotate_left
   ·rintro w' ⟨s0, s1, s2, s3, s4, s5⟩
    go_simp
    with_reducible rfl
   rotate_left
   ·simp only [Act.put, List.setIfInBounds_toArray, List.set_cons_zero, List.set_cons_succ, i64_w, i32_w]
    rfl
   refine one_ (i := 2) (N := some 24) (bz 5 7) rfl rfl (by kernel_rfl) (by decide) (fun K hK => ?_)
   refine goes_ Tryd.func8 (by kernel_rfl) rfl #[.agg #[.int .i64 a0_0, .int .i64 a0_1, .slice A0_2 l0_2.length c0_2]] (by rfl) rfl rfl ab1_ ?_
   with_reducible refine (laws_toExpr.calls k a0_0 a0_1 _ _ l0_2 t53 t73 t74 _ (aC_ (Kd.C_below HR0_2.out HB.out)) HC0_2.out A12.out).mono ?_
   rintro e w30 ⟨v83, rfl, ho0, hb⟩
   refine ⟨_, rfl, ?_⟩
   have HO84 := am (Kd.R_lower (Kd.R_newB (Kd.R_new' (Kd.R_new' ho0 (Kd.R_lt (aR_ HO78.out))) (Kd.R_lt (aR_ HO81.out))) (g := gb82) (o := .cells #[.int .i64 t51, .int .i64 t69, .slice Ao27 t71.length co27] 29 (0, 0)) (aG_ BK82.out)) (below_size ab12_))
   replace HO78 := am (Kd.R_elder' (aR_ HO78.out) (Kd.R_base ho0) hb)
   replace HO81 := am (Kd.R_elder' (aR_ HO81.out) (Kd.R_base ho0) hb)
   replace BK66 := am (bbl_ BK66.out hb)
   replace BK82 := am (bbl_ BK82.out hb)
   replace HB := am (below_step ab12_ hb)
   (try clear hb)
   (try clear hb2)
   (try clear hk)
   (try clear hi)
   (try clear ho0)
   obtain ⟨Ao31, co31, eo31⟩ := Kd.R_slice HO84.out
   (first | subst eo31 | (injection eo31 with f1_ f2_ f3_; have f4_ := f1_.symm; have f5_ := f3_.symm; clear f1_ f2_ f3_; subst f4_; subst f5_))
   refine hK.out _ _ ⟨(blk_cell BK82.out 0).trans rfl, (blk_cell BK82.out 1).trans rfl, (blk_cell BK82.out 2).trans rfl, (blk_cell BK66.out 0).trans rfl, (blk_cell BK66.out 1).trans rfl, (blk_cell BK66.out 2).trans rfl⟩ (fun hHeld => ?_)
   clear hK K
   refine norm_ (a' := ?_) ?_ ?_
   rotate_left
   ·show Act.put _ (some 24) _ = _
    simp only [Act.put, List.setIfInBounds_toArray, List.set_cons_zero, List.set_cons_succ, i64_w, i32_w]
    rfl
   refine one_ (i := 3) (N := some 25) (bz 5 15) rfl rfl (by kernel_rfl) (by decide) (fun K hK => ?_)
   refine goes_ Tryd.func10 (by kernel_rfl) rfl #[.agg #[.int .i64 t51, .int .i64 t69, .slice Ao27 t71.length co27], .agg #[.int .i64 t53, .int .i64 t73, .slice Ao31 t74.length co31]] (by rfl) rfl rfl ab1_ ?_
   with_reducible refine (laws_eqExpr.calls k t51 t69 _ _ t71 t53 t73 _ _ t74 true _ (aC_ (Kd.R_reads' HO81.out).2.2) (Kd.R_reads' HO81.out).2.1 (aC_ (Kd.R_reads' HO84.out).2.2) (Kd.R_reads' HO84.out).2.1 A13.out).mono ?_
   rintro e w32 ⟨rfl, hb⟩
   refine ⟨_, rfl, ?_⟩
   replace HO78 := am (Kd.R_below (aR_ HO78.out) hb)
   replace HO81 := am (Kd.R_below (aR_ HO81.out) hb)
   replace HO84 := am (Kd.R_below (aR_ HO84.out) hb)
   replace BK66 := am (bbl_ BK66.out hb)
   replace BK82 := am (bbl_ BK82.out hb)
   replace HB := am (below_step ab12_ hb)
   (try clear hb)
   (try clear hb2)
   (try clear hk)
   (try clear hi)
   refine hK.out _ _ ⟨(blk_cell BK82.out 0).trans rfl, (blk_cell BK82.out 1).trans rfl, (blk_cell BK82.out 2).trans rfl, (blk_cell BK66.out 0).trans rfl, (blk_cell BK66.out 1).trans rfl, (blk_cell BK66.out 2).trans rfl⟩ (fun hHeld => ?_)
   clear hK K
   refine norm_ (a' := ?_) ?_ ?_
   rotate_left
   ·show Act.put _ (some 25) _ = _
    simp only [Act.put, List.setIfInBounds_toArray, List.set_cons_zero, List.set_cons_succ, i64_w, i32_w]
    rfl
   refine pure_ (i := 4) (N := some 26) (v := ?_) (a' := ?_) (bz 5 31) rfl rfl (by kernel_rfl) (fun _ _ _ h => h) (Or.inl ⟨by rfl, ?_⟩) ?_ ?_
   rotate_left
   ·intro w'
    go_simp
    with_reducible rfl
   rotate_left
   ·simp only [Act.put, List.setIfInBounds_toArray, List.set_cons_zero, List.set_cons_succ, i64_w, i32_w]
    rfl
   refine done_ (by kernel_rfl) ?_
   try go_wp2
   go_ret
   exact ⟨rr_, ab12_⟩
  replace c14 := Bool.eq_false_iff.mpr c14
  subst c14
  rw [if_neg (show ¬ (false = true) by decide)] at H
  obtain rfl := Option.some.inj H
  obtain ⟨hcz36_0, hcz36_1, hcz36_2, hfz36_0, hfz36_1, hfz36_2⟩ := bcf3_ BK66.out
  try go_wp2_with (first | ((with_reducible refine gate_callee (f := 8) rfl ?_); refine gl_ 13 Tryd.func8 #[.agg #[.int .i64 a0_0, .int .i64 a0_1, .slice A0_2 l0_2.length c0_2]] ?_; (with_reducible refine (laws_toExpr.calls k a0_0 a0_1 _ _ l0_2 t34 t67 t68 _ (aC_ (Kd.C_below HR0_2.out HB.out)) HC0_2.out A7.out).mono ?_); rintro e w37 ⟨v77, rfl, ho0, hb⟩; refine ⟨_, rfl, ?_⟩; have HO78 := am (Kd.R_lower ho0 (below_size ab7_)); replace BK66 := am (bbl_ BK66.out hb); replace HB := am (below_step ab7_ hb); (try clear hb); (try clear ho0); obtain ⟨Ao38, co38, eo38⟩ := Kd.R_slice HO78.out; subst eo38) | ((with_reducible refine gate_callee (f := 7) rfl ?_); refine gl_ 14 Tryd.func7 #[.agg #[.int .i64 t34, .int .i64 t67, .slice Ao38 t68.length co38]] ?_; (with_reducible refine (spec_ExprText.calls k t34 t67 _ _ t68 t35 _ (aC_ (Kd.R_reads' HO78.out).2.2) (Kd.R_reads' HO78.out).2.1 A8.out).mono ?_); rintro e w39 ⟨rfl, hb⟩; refine ⟨_, rfl, ?_⟩; replace HO78 := am (Kd.R_below (aR_ HO78.out) hb); replace BK66 := am (bbl_ BK66.out hb); replace HB := am (below_step ab7_ hb); (try clear hb); obtain ⟨hcz40_0, hcz40_1, hcz40_2, hfz40_0, hfz40_1, hfz40_2⟩ := bcf3_ BK66.out) | ((with_reducible refine gate_callee (f := 8) rfl ?_); refine gl_ 16 Tryd.func8 #[.agg #[.int .i64 a0_0, .int .i64 a0_1, .slice A0_2 l0_2.length c0_2]] ?_; (with_reducible refine (laws_toExpr.calls k a0_0 a0_1 _ _ l0_2 t51 t69 t71 _ (aC_ (Kd.C_below HR0_2.out HB.out)) HC0_2.out A9.out).mono ?_); rintro e w41 ⟨v79, rfl, ho0, hb⟩; refine ⟨_, rfl, ?_⟩; have HO81 := am (Kd.R_lower (Kd.R_new' ho0 (Kd.R_lt (aR_ HO78.out))) (below_size ab7_)); replace HO78 := am (Kd.R_elder' (aR_ HO78.out) (Kd.R_base ho0) hb); replace BK66 := am (bbl_ BK66.out hb); replace HB := am (below_step ab7_ hb); (try clear hb); (try clear ho0)) | ((with_reducible refine gate_dst (N := 5) rfl ?_); refine box_event rfl (N := 5) rfl (cs := #[.int .i64 0, .int .i64 0, .slice none 0 0]) (t := 29) rn_ ?_; intro gb82 hg w42 hbox hb; replace HO78 := am (Kd.R_below (Kd.R_elderB (aR_ HO78.out) gb82 (Nat.le_of_eq hg.symm)) hb); replace HO81 := am (Kd.R_below (Kd.R_elderB (aR_ HO81.out) gb82 (Nat.le_of_eq hg.symm)) hb); have BK82 := am (hbox); have GW82 := am ((by rw [hg]; exact (below_size ab7_) : w.heap.size ≤ gb82)); have GE82 := am ((by rw [hg]; exact (below_size ab7_) : w.heap.size ≤ gb82)); replace HB := am (below_step ab7_ hb); have NB66_82 := am ((by rw [hg]; exact Nat.ne_of_lt (blt_ BK66.out) : gb66 ≠ gb82)); have NB82_66 := am ((by rw [hg]; exact Nat.ne_of_gt (blt_ BK66.out) : gb82 ≠ gb66)); replace BK66 := am (bbl_ BK66.out hb); clear hb hbox hg; have hnb43 := NB82_66.out; have hnc43 := NB66_82.out; obtain ⟨hcz44_0, hcz44_1, hcz44_2, hfz44_0, hfz44_1, hfz44_2⟩ := bcf3_ BK82.out; obtain ⟨Ao45, co45, eo45⟩ := Kd.R_slice HO81.out; subst eo45) | ((with_reducible refine gate_callee (f := 9) rfl ?_); refine gl_ 18 Tryd.func9 #[.agg #[.int .i64 t51, .int .i64 t69, .slice Ao45 t71.length co45]] ?_; (with_reducible refine (impl_ExprText.calls k t51 t69 _ _ t71 t52 _ ?side1 (Kd.R_reads' HO81.out).2.1 ?sideT A10.out).mono ?_); (case sideT => first | exact ht_ | exact Tab.below ht_ HB.out | exact Tab.below ht_ ab12_); (case side1 => refine (Kd.R_reads' (e := 29) (base := w.heap.size) (ok := fun k_ => ((True ∧ some k_ ≠ (.slice Ao38 t68.length co38 : Value).ownBlock) ∧ k_ ≠ gb82)) (n := t71.length) (c := co45) ?_).2.2; exact (aRw_ ((Kd.R_mono (Kd.R_far (p := ⟨gb82, 2, none⟩) (Kd.R_far (p := ⟨gb82, 1, none⟩) (Kd.R_far (p := ⟨gb82, 0, none⟩) (Kd.R_mono HO81.out (fun k_ hk => (⟨hk, hk.2⟩ : _ ∧ k_ ≠ gb82))) (fun _ hk => hk.2) (.int .i64 t51)) (fun _ hk => hk.2) (.int .i64 t69)) (fun _ hk => hk.2) (.slice Ao45 t71.length co45)) (fun _ h_ => h_.1))))); rintro e w46 ⟨rfl, hb⟩; refine ⟨_, rfl, ?_⟩; replace HO78 := am (Kd.R_below (aRw_ ((Kd.R_mono (Kd.R_far (p := ⟨gb82, 2, none⟩) (Kd.R_far (p := ⟨gb82, 1, none⟩) (Kd.R_far (p := ⟨gb82, 0, none⟩) (Kd.R_mono HO78.out (fun k_ hk => (⟨hk, hk.2⟩ : _ ∧ k_ ≠ gb82))) (fun _ hk => hk.2) (.int .i64 t51)) (fun _ hk => hk.2) (.int .i64 t69)) (fun _ hk => hk.2) (.slice Ao45 t71.length co45)) (fun _ h_ => h_.1)))) hb); replace HO81 := am (Kd.R_below (aRw_ ((Kd.R_mono (Kd.R_far (p := ⟨gb82, 2, none⟩) (Kd.R_far (p := ⟨gb82, 1, none⟩) (Kd.R_far (p := ⟨gb82, 0, none⟩) (Kd.R_mono HO81.out (fun k_ hk => (⟨hk, hk.2⟩ : _ ∧ k_ ≠ gb82))) (fun _ hk => hk.2) (.int .i64 t51)) (fun _ hk => hk.2) (.int .i64 t69)) (fun _ hk => hk.2) (.slice Ao45 t71.length co45)) (fun _ h_ => h_.1)))) hb); replace BK66 := am (blk_below (g := gb66) (o := .cells #[.int .i64 a0_0, .int .i64 a0_1, .slice A0_2 l0_2.length c0_2] 24 (0, 0)) (blk_far (blk_far (blk_far BK66.out NB66_82.out _) NB66_82.out _) NB66_82.out _) hb); replace BK82 := am (blk_below (g := gb82) (o := .cells #[.int .i64 t51, .int .i64 t69, .slice Ao45 t71.length co45] 29 (0, 0)) (blk_put (blk_put (blk_put BK82.out 0 _ rfl) 1 _ rfl) 2 _ rfl) hb); replace HB := am (below_step ab12_ hb); (try clear hb)))
  replace HO78 := am (Kd.R_drew HO78.out)
  replace HO81 := am (Kd.R_drew HO81.out)
  replace BK66 := am (blk_drew BK66.out)
  replace BK82 := am (blk_drew BK82.out)
  replace HB := am (below_drew1 HB.out)
  refine start_ (n := 5) (S := fun w' => w'.cell? ⟨gb82, 0, none⟩ = some (.int .i64 t51) ∧ w'.cell? ⟨gb82, 1, none⟩ = some (.int .i64 t69) ∧ w'.cell? ⟨gb82, 2, none⟩ = some (.slice Ao45 t71.length co45) ∧ w'.cell? ⟨gb66, 0, none⟩ = some (.int .i64 a0_0) ∧ w'.cell? ⟨gb66, 1, none⟩ = some (.int .i64 a0_1) ∧ w'.cell? ⟨gb66, 2, none⟩ = some (.slice A0_2 l0_2.length c0_2)) (ds := []) (bz 5 0) (by kernel_rfl) rfl rfl ⟨(blk_cell BK82.out 0).trans rfl, (blk_cell BK82.out 1).trans rfl, (blk_cell BK82.out 2).trans rfl, (blk_cell BK66.out 0).trans rfl, (blk_cell BK66.out 1).trans rfl, (blk_cell BK66.out 2).trans rfl⟩ (fun hHeld => ?_)
  generalize w46.drew = w47 at HO78 HO81 BK66 BK82 HB hHeld ⊢
  refine take_ (i := 0) (N := some 22) (v := ?_) (a' := ?_) (bz 5 1) rfl rfl (by kernel_rfl) (fun _ _ _ h => h) (Or.inl ⟨by rfl, ?_⟩) hHeld ?_ ?_
  rotate_left
  ·rintro w' ⟨s0, s1, s2, s3, s4, s5⟩
   go_simp
   with_reducible rfl
  rotate_left
  ·simp only [Act.put, List.setIfInBounds_toArray, List.set_cons_zero, List.set_cons_succ, i64_w, i32_w]
   rfl
  refine take_ (i := 1) (N := some 23) (v := ?_) (a' := ?_) (bz 5 3) rfl rfl (by kernel_rfl) (fun _ _ _ h => h) (Or.inl ⟨by rfl, ?_⟩) hHeld ?_ ?_
  rotate_left
  ·rintro w' ⟨s0, s1, s2, s3, s4, s5⟩
   go_simp
   with_reducible rfl
  rotate_left
  ·simp only [Act.put, List.setIfInBounds_toArray, List.set_cons_zero, List.set_cons_succ, i64_w, i32_w]
   rfl
  refine one_ (i := 2) (N := some 24) (bz 5 7) rfl rfl (by kernel_rfl) (by decide) (fun K hK => ?_)
  refine goes_ Tryd.func8 (by kernel_rfl) rfl #[.agg #[.int .i64 a0_0, .int .i64 a0_1, .slice A0_2 l0_2.length c0_2]] (by rfl) rfl rfl ab1_ ?_
  with_reducible refine (laws_toExpr.calls k a0_0 a0_1 _ _ l0_2 t53 t73 t74 _ (aC_ (Kd.C_below HR0_2.out HB.out)) HC0_2.out A12.out).mono ?_
  rintro e w48 ⟨v83, rfl, ho0, hb⟩
  refine ⟨_, rfl, ?_⟩
  have HO84 := am (Kd.R_lower (Kd.R_newB (Kd.R_new' (Kd.R_new' ho0 (Kd.R_lt (aR_ HO78.out))) (Kd.R_lt (aR_ HO81.out))) (g := gb82) (o := .cells #[.int .i64 t51, .int .i64 t69, .slice Ao45 t71.length co45] 29 (0, 0)) (aG_ BK82.out)) (below_size ab12_))
  replace HO78 := am (Kd.R_elder' (aR_ HO78.out) (Kd.R_base ho0) hb)
  replace HO81 := am (Kd.R_elder' (aR_ HO81.out) (Kd.R_base ho0) hb)
  replace BK66 := am (bbl_ BK66.out hb)
  replace BK82 := am (bbl_ BK82.out hb)
  replace HB := am (below_step ab12_ hb)
  (try clear hb)
  (try clear hb2)
  (try clear hk)
  (try clear hi)
  (try clear ho0)
  obtain ⟨Ao49, co49, eo49⟩ := Kd.R_slice HO84.out
  (first | subst eo49 | (injection eo49 with f1_ f2_ f3_; have f4_ := f1_.symm; have f5_ := f3_.symm; clear f1_ f2_ f3_; subst f4_; subst f5_))
  refine hK.out _ _ ⟨(blk_cell BK82.out 0).trans rfl, (blk_cell BK82.out 1).trans rfl, (blk_cell BK82.out 2).trans rfl, (blk_cell BK66.out 0).trans rfl, (blk_cell BK66.out 1).trans rfl, (blk_cell BK66.out 2).trans rfl⟩ (fun hHeld => ?_)
  clear hK K
  refine norm_ (a' := ?_) ?_ ?_
  rotate_left
  ·show Act.put _ (some 24) _ = _
   simp only [Act.put, List.setIfInBounds_toArray, List.set_cons_zero, List.set_cons_succ, i64_w, i32_w]
   rfl
  refine one_ (i := 3) (N := some 25) (bz 5 15) rfl rfl (by kernel_rfl) (by decide) (fun K hK => ?_)
  refine goes_ Tryd.func10 (by kernel_rfl) rfl #[.agg #[.int .i64 t51, .int .i64 t69, .slice Ao45 t71.length co45], .agg #[.int .i64 t53, .int .i64 t73, .slice Ao49 t74.length co49]] (by rfl) rfl rfl ab1_ ?_
  with_reducible refine (laws_eqExpr.calls k t51 t69 _ _ t71 t53 t73 _ _ t74 false _ (aC_ (Kd.R_reads' HO81.out).2.2) (Kd.R_reads' HO81.out).2.1 (aC_ (Kd.R_reads' HO84.out).2.2) (Kd.R_reads' HO84.out).2.1 A13.out).mono ?_
  rintro e w50 ⟨rfl, hb⟩
  refine ⟨_, rfl, ?_⟩
  replace HO78 := am (Kd.R_below (aR_ HO78.out) hb)
  replace HO81 := am (Kd.R_below (aR_ HO81.out) hb)
  replace HO84 := am (Kd.R_below (aR_ HO84.out) hb)
  replace BK66 := am (bbl_ BK66.out hb)
  replace BK82 := am (bbl_ BK82.out hb)
  replace HB := am (below_step ab12_ hb)
  (try clear hb)
  (try clear hb2)
  (try clear hk)
  (try clear hi)
  refine hK.out _ _ ⟨(blk_cell BK82.out 0).trans rfl, (blk_cell BK82.out 1).trans rfl, (blk_cell BK82.out 2).trans rfl, (blk_cell BK66.out 0).trans rfl, (blk_cell BK66.out 1).trans rfl, (blk_cell BK66.out 2).trans rfl⟩ (fun hHeld => ?_)
  clear hK K
  refine norm_ (a' := ?_) ?_ ?_
  rotate_left
  ·show Act.put _ (some 25) _ = _
   simp only [Act.put, List.setIfInBounds_toArray, List.set_cons_zero, List.set_cons_succ, i64_w, i32_w]
   rfl
  refine pure_ (i := 4) (N := some 26) (v := ?_) (a' := ?_) (bz 5 31) rfl rfl (by kernel_rfl) (fun _ _ _ h => h) (Or.inl ⟨by rfl, ?_⟩) ?_ ?_
  rotate_left
  ·intro w'
   go_simp
   with_reducible rfl
  rotate_left
  ·simp only [Act.put, List.setIfInBounds_toArray, List.set_cons_zero, List.set_cons_succ, i64_w, i32_w]
   rfl
  refine done_ (by kernel_rfl) ?_
  try go_wp2
  go_ret
  exact ⟨rr_, ab12_⟩
 rw [if_neg c11] at H
 have c11b0 : (t52.toList == t35.toList) = false := beq_eq_false_iff_ne.mpr c11
 have c11b1 : (t52.toList != t35.toList) = true := bne_iff_ne.mpr c11
 obtain rfl := Option.some.inj H
 obtain ⟨hcz54_0, hcz54_1, hcz54_2, hfz54_0, hfz54_1, hfz54_2⟩ := bcf3_ BK66.out
 go_wp2_with (first | ((with_reducible refine gate_callee (f := 8) rfl ?_); refine gl_ 13 Tryd.func8 #[.agg #[.int .i64 a0_0, .int .i64 a0_1, .slice A0_2 l0_2.length c0_2]] ?_; (with_reducible refine (laws_toExpr.calls k a0_0 a0_1 _ _ l0_2 t34 t67 t68 _ (aC_ (Kd.C_below HR0_2.out HB.out)) HC0_2.out A7.out).mono ?_); rintro e w55 ⟨v77, rfl, ho0, hb⟩; refine ⟨_, rfl, ?_⟩; have HO78 := am (Kd.R_lower ho0 (below_size ab7_)); replace BK66 := am (bbl_ BK66.out hb); replace HB := am (below_step ab7_ hb); (try clear hb); (try clear ho0); obtain ⟨Ao56, co56, eo56⟩ := Kd.R_slice HO78.out; subst eo56) | ((with_reducible refine gate_callee (f := 7) rfl ?_); refine gl_ 14 Tryd.func7 #[.agg #[.int .i64 t34, .int .i64 t67, .slice Ao56 t68.length co56]] ?_; (with_reducible refine (spec_ExprText.calls k t34 t67 _ _ t68 t35 _ (aC_ (Kd.R_reads' HO78.out).2.2) (Kd.R_reads' HO78.out).2.1 A8.out).mono ?_); rintro e w57 ⟨rfl, hb⟩; refine ⟨_, rfl, ?_⟩; replace HO78 := am (Kd.R_below (aR_ HO78.out) hb); replace BK66 := am (bbl_ BK66.out hb); replace HB := am (below_step ab7_ hb); (try clear hb); obtain ⟨hcz58_0, hcz58_1, hcz58_2, hfz58_0, hfz58_1, hfz58_2⟩ := bcf3_ BK66.out) | ((with_reducible refine gate_callee (f := 8) rfl ?_); refine gl_ 16 Tryd.func8 #[.agg #[.int .i64 a0_0, .int .i64 a0_1, .slice A0_2 l0_2.length c0_2]] ?_; (with_reducible refine (laws_toExpr.calls k a0_0 a0_1 _ _ l0_2 t51 t69 t71 _ (aC_ (Kd.C_below HR0_2.out HB.out)) HC0_2.out A9.out).mono ?_); rintro e w59 ⟨v79, rfl, ho0, hb⟩; refine ⟨_, rfl, ?_⟩; have HO81 := am (Kd.R_lower (Kd.R_new' ho0 (Kd.R_lt (aR_ HO78.out))) (below_size ab7_)); replace HO78 := am (Kd.R_elder' (aR_ HO78.out) (Kd.R_base ho0) hb); replace BK66 := am (bbl_ BK66.out hb); replace HB := am (below_step ab7_ hb); (try clear hb); (try clear ho0)) | ((with_reducible refine gate_dst (N := 5) rfl ?_); refine box_event rfl (N := 5) rfl (cs := #[.int .i64 0, .int .i64 0, .slice none 0 0]) (t := 29) rn_ ?_; intro gb82 hg w60 hbox hb; replace HO78 := am (Kd.R_below (Kd.R_elderB (aR_ HO78.out) gb82 (Nat.le_of_eq hg.symm)) hb); replace HO81 := am (Kd.R_below (Kd.R_elderB (aR_ HO81.out) gb82 (Nat.le_of_eq hg.symm)) hb); have BK82 := am (hbox); have GW82 := am ((by rw [hg]; exact (below_size ab7_) : w.heap.size ≤ gb82)); have GE82 := am ((by rw [hg]; exact (below_size ab7_) : w.heap.size ≤ gb82)); replace HB := am (below_step ab7_ hb); have NB66_82 := am ((by rw [hg]; exact Nat.ne_of_lt (blt_ BK66.out) : gb66 ≠ gb82)); have NB82_66 := am ((by rw [hg]; exact Nat.ne_of_gt (blt_ BK66.out) : gb82 ≠ gb66)); replace BK66 := am (bbl_ BK66.out hb); clear hb hbox hg; have hnb61 := NB82_66.out; have hnc61 := NB66_82.out; obtain ⟨hcz62_0, hcz62_1, hcz62_2, hfz62_0, hfz62_1, hfz62_2⟩ := bcf3_ BK82.out; obtain ⟨Ao63, co63, eo63⟩ := Kd.R_slice HO81.out; subst eo63) | ((with_reducible refine gate_callee (f := 9) rfl ?_); refine gl_ 18 Tryd.func9 #[.agg #[.int .i64 t51, .int .i64 t69, .slice Ao63 t71.length co63]] ?_; (with_reducible refine (impl_ExprText.calls k t51 t69 _ _ t71 t52 _ ?side1 (Kd.R_reads' HO81.out).2.1 ?sideT A10.out).mono ?_); (case sideT => first | exact ht_ | exact Tab.below ht_ HB.out | exact Tab.below ht_ ab12_); (case side1 => refine (Kd.R_reads' (e := 29) (base := w.heap.size) (ok := fun k_ => ((True ∧ some k_ ≠ (.slice Ao56 t68.length co56 : Value).ownBlock) ∧ k_ ≠ gb82)) (n := t71.length) (c := co63) ?_).2.2; exact (aRw_ ((Kd.R_mono (Kd.R_far (p := ⟨gb82, 2, none⟩) (Kd.R_far (p := ⟨gb82, 1, none⟩) (Kd.R_far (p := ⟨gb82, 0, none⟩) (Kd.R_mono HO81.out (fun k_ hk => (⟨hk, hk.2⟩ : _ ∧ k_ ≠ gb82))) (fun _ hk => hk.2) (.int .i64 t51)) (fun _ hk => hk.2) (.int .i64 t69)) (fun _ hk => hk.2) (.slice Ao63 t71.length co63)) (fun _ h_ => h_.1))))); rintro e w64 ⟨rfl, hb⟩; refine ⟨_, rfl, ?_⟩; replace HO78 := am (Kd.R_below (aRw_ ((Kd.R_mono (Kd.R_far (p := ⟨gb82, 2, none⟩) (Kd.R_far (p := ⟨gb82, 1, none⟩) (Kd.R_far (p := ⟨gb82, 0, none⟩) (Kd.R_mono HO78.out (fun k_ hk => (⟨hk, hk.2⟩ : _ ∧ k_ ≠ gb82))) (fun _ hk => hk.2) (.int .i64 t51)) (fun _ hk => hk.2) (.int .i64 t69)) (fun _ hk => hk.2) (.slice Ao63 t71.length co63)) (fun _ h_ => h_.1)))) hb); replace HO81 := am (Kd.R_below (aRw_ ((Kd.R_mono (Kd.R_far (p := ⟨gb82, 2, none⟩) (Kd.R_far (p := ⟨gb82, 1, none⟩) (Kd.R_far (p := ⟨gb82, 0, none⟩) (Kd.R_mono HO81.out (fun k_ hk => (⟨hk, hk.2⟩ : _ ∧ k_ ≠ gb82))) (fun _ hk => hk.2) (.int .i64 t51)) (fun _ hk => hk.2) (.int .i64 t69)) (fun _ hk => hk.2) (.slice Ao63 t71.length co63)) (fun _ h_ => h_.1)))) hb); replace BK66 := am (blk_below (g := gb66) (o := .cells #[.int .i64 a0_0, .int .i64 a0_1, .slice A0_2 l0_2.length c0_2] 24 (0, 0)) (blk_far (blk_far (blk_far BK66.out NB66_82.out _) NB66_82.out _) NB66_82.out _) hb); replace BK82 := am (blk_below (g := gb82) (o := .cells #[.int .i64 t51, .int .i64 t69, .slice Ao63 t71.length co63] 29 (0, 0)) (blk_put (blk_put (blk_put BK82.out 0 _ rfl) 1 _ rfl) 2 _ rfl) hb); replace HB := am (below_step ab12_ hb); (try clear hb)))
 go_ret
 exact ⟨rr_, ab12_⟩
end Go.Proofs.YtjamfkpgmkhbnaaDoor.PA

namespace Go.Proofs.YtjamfkpgmkhbnaaDoor.Core
open Go.RowKit Go.Proofs.YtjamfkpgmkhbnaaDoorW.PrintWords Go.Proofs.YtjamfkpgmkhbnaaDoorW.PrintMore
section
variable {α β : Type} {g h : Nat → Option α} {P Q : α → Prop}
def EvP (g : Nat → Option α) (P : α → Prop) : Prop := ∃ r, Ev g r ∧ P r
theorem EvP.ret {r : α} (h : P r) : EvP (fun _ => some r) P := ⟨r, Ev.now r, h⟩
theorem EvP.mono (h : EvP g P) (k : ∀ a, P a → Q a) : EvP g Q := by
 obtain ⟨r, h1, h2⟩ := h
 exact ⟨r, h1, k r h2⟩
theorem EvP.bind {f : Nat → α → Option β} {R : β → Prop} (h : EvP g P) (k : ∀ a, P a → EvP (fun n => f n a) R) : EvP (fun n => (g n).bind (f n)) R := by
 obtain ⟨a, h1, h2⟩ := h
 obtain ⟨r, k1, k2⟩ := k a h2
 exact ⟨r, Ev.bind h1 k1, k2⟩
theorem EvP.bind0 {o : Option α} {a : α} {f : Nat → α → Option β} {R : β → Prop} (h : o = some a) (k : EvP (fun n => f n a) R) : EvP (fun n => o.bind (f n)) R := by
 subst h
 exact k
theorem EvP.ite {c : Prop} [Decidable c] (h1 : c → EvP g P) (h2 : ¬ c → EvP h P) : EvP (fun n => if c then g n else h n) P := by
 by_cases hc : c
 ·simp only [if_pos hc]
  exact h1 hc
 ·simp only [if_neg hc]
  exact h2 hc
theorem EvP.yes {c : Prop} [Decidable c] (hc : c) (h1 : EvP g P) : EvP (fun n => if c then g n else h n) P := by
 simp only [if_pos hc]
 exact h1
theorem EvP.no {c : Prop} [Decidable c] (hc : ¬ c) (h1 : EvP h P) : EvP (fun n => if c then g n else h n) P := by
 simp only [if_neg hc]
 exact h1
theorem EvP.step {f : Nat → Option α} (h : ∀ k, g (k + 1) = f k) (k : EvP f P) : EvP g P := by
 obtain ⟨r, h1, h2⟩ := k
 exact ⟨r, Ev.step h h1, h2⟩
theorem EvP.ends {r : α} (h : EvP g (· = r)) : ∃ k, g k = some r := by
  obtain ⟨a, h1, h2⟩ := h
  subst h2
  exact h1.rounds
theorem Ev.evp {r : α} (h : Ev g r) : EvP g (· = r) := ⟨r, h, rfl⟩
theorem EvP.congr {f : Nat → Option α} (h : ∀ k, g k = f k) (k : EvP f P) : EvP g P := by
 obtain ⟨r, h1, h2⟩ := k
 exact ⟨r, Ev.congr h h1, h2⟩
theorem EvP.of {o : Option α} {r : α} (h : o = some r) (hp : P r) : EvP (fun _ => o) P := by
 subst h
 exact EvP.ret hp
theorem EvP.bindEq {f : Nat → α → Option β} {R : β → Prop} {a : α} (h : EvP g (· = a)) (k : EvP (fun n => f n a) R) : EvP (fun n => (g n).bind (f n)) R :=
  EvP.bind h (fun b hb => by subst hb; exact k)
end
theorem w64 {n : Int} (h1 : -9223372036854775808 ≤ n) (h2 : n ≤ 9223372036854775807) : wrap64 n = n := by
 unfold wrap64
 omega
theorem rd_mem (xs : List Int) (i : Int) (h0 : 0 ≤ i) (h : i < xs.length) : rd xs i ∈ xs := by
 unfold rd
 rw [List.getD_eq_getElem?_getD, List.getElem?_eq_getElem (by omega)]
 exact List.getElem_mem _
end Go.Proofs.YtjamfkpgmkhbnaaDoor.Core

namespace Go.Proofs.YtjamfkpgmkhbnaaDoor.PA
open Go.RowKit Go.Proofs.YtjamfkpgmkhbnaaDoorW.PrintWords Go.Proofs.YtjamfkpgmkhbnaaDoorW.PrintMore Go.Proofs.YtjamfkpgmkhbnaaDoor.Core
def ap (op a b : Int) : Int :=
 if op = 1 then Go.bits .or .i64 a b else if op = 2 then Go.bits .xor .i64 a b else if op = 3 then Go.bits .and .i64 a b
 else if op = 4 then (if a = b then 1 else 0) else if op = 5 then (if a < b then 1 else 0)
 else if op = 6 then wrap32 (shl .i64 a (Go.bits .and .i64 b 31)) else if op = 7 then shr .i64 a (Go.bits .and .i64 b 31)
 else if op = 8 then wrap32 (a + b) else if op = 9 then wrap32 (a - b) else if op = 10 then wrap32 (a * b)
 else if op = 11 then (if b = 0 then -1 else wrap32 (Int.tdiv a b)) else if b = 0 then a else Int.tmod a b
end Go.Proofs.YtjamfkpgmkhbnaaDoor.PA

namespace Go.Proofs.YtjamfkpgmkhbnaaDoor.PA
open Go.RowKit Go.Proofs.YtjamfkpgmkhbnaaDoorW.PrintWords Go.Proofs.YtjamfkpgmkhbnaaDoor.Core
theorem l6In_eq (a b c : Int) : spec_l6In.f a b c = some (decide (b ≤ a) && decide (a ≤ c)) := by
 unfold spec_l6In.f
 by_cases h : a ≥ b
 ·rw [if_pos h, decide_eq_true h, Bool.true_and]
 ·rw [if_neg h, decide_eq_false h, Bool.false_and]
end Go.Proofs.YtjamfkpgmkhbnaaDoor.PA

namespace Go.Proofs.YtjamfkpgmkhbnaaDoor.PA
open Go.RowKit Go.Proofs.YtjamfkpgmkhbnaaDoor.Core
inductive X where
 | num (n : Int)
 | var (v : Int)
 | bin (op : Int) (a b : X)
namespace X
def ok : X → Prop
 | num n => 0 ≤ n ∧ n ≤ 99999
 | var v => 0 ≤ v ∧ v < 4
 | bin op a b => (1 ≤ op ∧ op ≤ 12) ∧ a.ok ∧ b.ok
def depth : X → Nat
 | num _ => 1
 | var _ => 1
 | bin _ a b => max a.depth b.depth + 1
def size : X → Nat
 | num _ => 1
 | var _ => 1
 | bin _ a b => a.size + b.size + 1
def eval (g : Int → Int) : X → Int
 | num n => n
 | var v => g v
 | bin op a b => ap op (a.eval g) (b.eval g)
theorem one_le_depth : ∀ x : X, 1 ≤ x.depth
 | num _ | var _ => Nat.le_refl _
 | bin _ _ _ => Nat.le_add_left _ _
theorem size_depth : ∀ x : X, x.size + 1 ≤ 2 ^ x.depth
 | num _ | var _ => by simp [size, depth]
 | bin _ a b => by
  have ha := size_depth a
  have hb := size_depth b
  have h1 : 2 ^ a.depth ≤ 2 ^ max a.depth b.depth := Nat.pow_le_pow_right (by omega) (Nat.le_max_left _ _)
  have h2 : 2 ^ b.depth ≤ 2 ^ max a.depth b.depth := Nat.pow_le_pow_right (by omega) (Nat.le_max_right _ _)
  simp only [size, depth, Nat.pow_succ]
  omega
end X
end Go.Proofs.YtjamfkpgmkhbnaaDoor.PA

namespace Go.Proofs.YtjamfkpgmkhbnaaDoor.PA
open Go.RowKit Go.Proofs.YtjamfkpgmkhbnaaDoorW.PrintWords Go.Proofs.YtjamfkpgmkhbnaaDoorW.PrintMore Go.Proofs.YtjamfkpgmkhbnaaDoor.Core
def emb : X → S29
 | .num n => ⟨0, n, []⟩
 | .var v => ⟨13, v, []⟩
 | .bin op a b => ⟨op, 0, [emb a, emb b]⟩
theorem rdE_nat (l : List S29) (i : Nat) (h : i < l.length) : rd_T29 l (i : Int) = l[i] := by
 unfold rd_T29
 rw [Int.toNat_natCast, List.getD_eq_getElem?_getD, List.getElem?_eq_getElem h]
 rfl
theorem rdE_0 (a b : S29) : rd_T29 [a, b] 0 = a := rfl
theorem rdE_1 (a b : S29) : rd_T29 [a, b] 1 = b := rfl
theorem etaE (a : S29) : (⟨a.f0, a.f1, a.f2⟩ : S29) = a := by
 cases a
 rfl
def vx : Nat → Int → Int → List S29 → Bool
 | 0, _, _, _ => false
 | d + 1, op, n, l =>
  if op = 0 then decide (0 ≤ n) && (decide (n ≤ 99999) && decide (l.length = 0))
  else if op = 13 then decide (0 ≤ n) && (decide (n < 4) && decide (l.length = 0))
  else decide (1 ≤ op) && (decide (op ≤ 12) && (decide (n = 0) && (match l with
   | [a, b] => vx d a.f0 a.f1 a.f2 && vx d b.f0 b.f1 b.f2
   | _ => false)))
theorem two_of {α : Type} {l : List α} (h : l.length = 2) : ∃ a b, l = [a, b] := by
 match l, h with
 | [a, b], _ => exact ⟨a, b, rfl⟩
theorem vx_tree : ∀ (d : Nat) (op n : Int) (l : List S29), vx d op n l = true → ∃ x : X, x.ok ∧ x.depth ≤ d ∧ emb x = ⟨op, n, l⟩
 | 0, _, _, _, h => by cases h
 | d + 1, op, n, l, h => by
  unfold vx at h
  by_cases h0 : op = 0
  ·rw [if_pos h0] at h
   simp only [Bool.and_eq_true, decide_eq_true_eq] at h
   subst h0
   exact ⟨.num n, ⟨h.1, h.2.1⟩, by simp [X.depth], by rw [emb, List.eq_nil_of_length_eq_zero h.2.2]⟩
  ·rw [if_neg h0] at h
   by_cases h13 : op = 13
   ·rw [if_pos h13] at h
    simp only [Bool.and_eq_true, decide_eq_true_eq] at h
    subst h13
    exact ⟨.var n, ⟨h.1, h.2.1⟩, by simp [X.depth], by rw [emb, List.eq_nil_of_length_eq_zero h.2.2]⟩
   ·rw [if_neg h13] at h
    simp only [Bool.and_eq_true, decide_eq_true_eq] at h
    obtain ⟨h1, h2, h3, h4⟩ := h
    split at h4
    ·rename_i a b
     simp only [Bool.and_eq_true] at h4
     obtain ⟨x, x1, x2, x3⟩ := vx_tree d a.f0 a.f1 a.f2 h4.1
     obtain ⟨y, y1, y2, y3⟩ := vx_tree d b.f0 b.f1 b.f2 h4.2
     exact ⟨.bin op x y, ⟨⟨h1, h2⟩, x1, y1⟩, by simp only [X.depth]; omega, by rw [emb, x3, y3, h3, etaE, etaE]⟩
    ·cases h4
theorem vx_emb : ∀ (x : X) (d : Nat), x.ok → (vx d (emb x).f0 (emb x).f1 (emb x).f2 = decide (x.depth ≤ d))
 | x, 0, _ => by
  have := X.one_le_depth x
  rw [decide_eq_false (by omega)]
  rfl
 | .num n, d + 1, h => by
  have h : 0 ≤ n ∧ n ≤ 99999 := h
  simp [vx, emb, X.depth, h.1, h.2]
 | .var v, d + 1, h => by
  have h : 0 ≤ v ∧ v < 4 := h
  simp [vx, emb, X.depth, h.1, h.2]
 | .bin op a b, d + 1, h => by
  have h1 := h.1
  have ha := vx_emb a d h.2.1
  have hb := vx_emb b d h.2.2
  have e0 : ¬ (op = 0) := by omega
  have e13 : ¬ (op = 13) := by omega
  have e : (X.bin op a b).depth = max a.depth b.depth + 1 := rfl
  show (if op = 0 then _ else if op = 13 then _ else decide (1 ≤ op) && (decide (op ≤ 12) && (true && (vx d (emb a).f0 (emb a).f1 (emb a).f2 && vx d (emb b).f0 (emb b).f1 (emb b).f2)))) = _
  rw [if_neg e0, if_neg e13, decide_eq_true h1.1, decide_eq_true h1.2, ha, hb, e, Bool.true_and, Bool.true_and, Bool.true_and, Bool.eq_iff_iff]
  simp only [Bool.and_eq_true, decide_eq_true_eq]
  omega
theorem impl_OpValid_eq (a : Int) : impl_OpValid.f a = some (decide (1 ≤ a) && decide (a ≤ 12)) := by
 unfold impl_OpValid.f
 by_cases h : a ≥ 1
 ·rw [if_pos h, decide_eq_true h, Bool.true_and]
 ·rw [if_neg h, decide_eq_false h, Bool.false_and]
theorem spec_OpValid_eq (a : Int) : spec_OpValid.f a = some (decide (1 ≤ a) && decide (a ≤ 12)) := by
 unfold spec_OpValid.f
 rw [l6In_eq]
 rfl
theorem impl_exprValid_ev : ∀ (d : Nat) (op n : Int) (l : List S29), d ≤ 1000 → EvP (fun k => impl_exprValid.f k op n l (d : Int)) (· = vx d op n l)
  | 0, op, n, l, hd => by
    refine EvP.step (fun k => impl_exprValid.f.eq_2 (k := k) ..) ?_
    refine EvP.ite (fun h => ?_) (fun h => ?_)
    · refine EvP.ite (fun _ => EvP.ite (fun _ => EvP.ite (fun _ => EvP.ret ?_) (fun _ => EvP.ret ?_)) (fun _ => EvP.ret ?_)) (fun _ => EvP.ret ?_) <;> simp [vx]
    · refine EvP.ite (fun h => ?_) (fun h => ?_)
      · refine EvP.ite (fun _ => EvP.ite (fun _ => EvP.ite (fun _ => EvP.ret ?_) (fun _ => EvP.ret ?_)) (fun _ => EvP.ret ?_)) (fun _ => EvP.ret ?_) <;> simp [vx]
      · refine EvP.bind0 (impl_OpValid_eq op) (EvP.ite (fun _ => EvP.ite (fun _ => EvP.ite (fun _ => EvP.no (by omega) (EvP.ret ?_)) (fun _ => EvP.ret ?_)) (fun _ => EvP.ret ?_)) (fun _ => EvP.ret ?_)) <;> simp [vx]
  | d + 1, op, n, l, hd => by
    refine EvP.step (fun k => impl_exprValid.f.eq_2 (k := k) ..) ?_
    unfold vx
    refine EvP.ite (fun h => ?_) (fun h => ?_)
    · rw [if_pos h]
      refine EvP.ite (fun h1 => EvP.ite (fun h2 => EvP.ite (fun h3 => EvP.ret ?_) (fun h3 => EvP.ret ?_)) (fun h2 => EvP.ret ?_)) (fun h1 => EvP.ret ?_)
      · rw [decide_eq_true (show 0 ≤ n from h1), decide_eq_true h2, decide_eq_true (show l.length = 0 by omega)]
        simp
      · rw [decide_eq_false (p := l.length = 0) (by omega)]
        simp
      · rw [decide_eq_false h2]
        simp
      · rw [decide_eq_false (p := 0 ≤ n) h1]
        simp
    · rw [if_neg h]
      refine EvP.ite (fun h => ?_) (fun h13 => ?_)
      · rw [if_pos h]
        refine EvP.ite (fun h1 => EvP.ite (fun h2 => EvP.ite (fun h3 => EvP.ret ?_) (fun h3 => EvP.ret ?_)) (fun h2 => EvP.ret ?_)) (fun h1 => EvP.ret ?_)
        · rw [decide_eq_true (show 0 ≤ n from h1), decide_eq_true h2, decide_eq_true (show l.length = 0 by omega)]
          simp
        · rw [decide_eq_false (p := l.length = 0) (by omega)]
          simp
        · rw [decide_eq_false h2]
          simp
        · rw [decide_eq_false (p := 0 ≤ n) h1]
          simp
      · rw [if_neg h13]
        refine EvP.bind0 (impl_OpValid_eq op) (EvP.ite (fun h1 => ?_) (fun h1 => EvP.ret ?_))
        · simp only [Bool.and_eq_true, decide_eq_true_eq] at h1
          rw [decide_eq_true h1.1, decide_eq_true h1.2]
          refine EvP.ite (fun h2 => ?_) (fun h2 => EvP.ret (by rw [decide_eq_false h2]; rfl))
          rw [decide_eq_true h2]
          refine EvP.ite (fun h3 => ?_) (fun h3 => EvP.ret ?_)
          · obtain ⟨a, b, rfl⟩ := two_of (show l.length = 2 by omega)
            refine EvP.ite (fun h4 => ?_) (fun h4 => EvP.ret ?_)
            · rw [w64 (by omega) (by omega), show ((d + 1 : Nat) : Int) - 1 = (d : Int) by omega, rdE_0, rdE_1]
              refine EvP.yes (by simp) (EvP.bindEq (impl_exprValid_ev d _ _ _ (by omega)) (EvP.ite (fun h5 => ?_) (fun h5 => EvP.ret ?_)))
              · refine EvP.yes (by simp) (EvP.bindEq (impl_exprValid_ev d _ _ _ (by omega)) (EvP.ret ?_))
                simp [h5]
              · simp [h5]
            · have hd0 : d = 0 := by omega
              subst hd0
              rfl
          · split
            · simp at h3
            · rfl
        · symm
          rw [Bool.eq_false_iff]
          intro e
          simp only [Bool.and_eq_true, decide_eq_true_eq] at e h1
          exact h1 ⟨e.1, e.2.1⟩
theorem spec_l4Ok_ev : ∀ (d : Nat) (op n : Int) (l : List S29), d ≤ 1000 → EvP (fun k => spec_l4Ok.f k op n l (d : Int)) (· = vx d op n l)
  | 0, op, n, l, hd => EvP.step (fun k => spec_l4Ok.f.eq_2 (k := k) ..) (EvP.yes (by omega) (EvP.ret rfl))
  | d + 1, op, n, l, hd => by
    have hlen : ((l.length : Int) == 0) = decide (l.length = 0) := by
      rw [Bool.eq_iff_iff, beq_iff_eq, decide_eq_true_eq]
      omega
    refine EvP.step (fun k => spec_l4Ok.f.eq_2 (k := k) ..) (EvP.no (by omega) ?_)
    unfold vx
    refine EvP.ite (fun h => ?_) (fun h => ?_)
    · rw [if_pos h, l6In_eq]
      refine EvP.bind0 rfl (EvP.ite (fun h1 => EvP.ret ?_) (fun h1 => EvP.ret ?_))
      · rw [hlen]
        simp only [Bool.and_eq_true, decide_eq_true_eq] at h1
        rw [decide_eq_true h1.1, decide_eq_true h1.2]
        rfl
      · rw [← Bool.and_assoc, Bool.eq_false_iff.mpr h1]
        rfl
    · rw [if_neg h]
      refine EvP.ite (fun h => ?_) (fun h13 => ?_)
      · rw [if_pos h, l6In_eq]
        have e3 : decide (n < 4) = decide (n ≤ 3) := decide_eq_decide.mpr (by omega)
        rw [e3]
        refine EvP.bind0 rfl (EvP.ite (fun h1 => EvP.ret ?_) (fun h1 => EvP.ret ?_))
        · rw [hlen]
          simp only [Bool.and_eq_true, decide_eq_true_eq] at h1
          rw [decide_eq_true h1.1, decide_eq_true h1.2]
          rfl
        · rw [← Bool.and_assoc, Bool.eq_false_iff.mpr h1]
          rfl
      · rw [if_neg h13]
        refine EvP.bind0 (spec_OpValid_eq op) (EvP.ite (fun h1 => ?_) (fun h1 => EvP.ret ?_))
        · simp only [Bool.and_eq_true, decide_eq_true_eq] at h1
          rw [decide_eq_true h1.1, decide_eq_true h1.2]
          refine EvP.ite (fun h2 => ?_) (fun h2 => EvP.ret (by rw [decide_eq_false h2]; rfl))
          rw [decide_eq_true h2]
          refine EvP.ite (fun h3 => ?_) (fun h3 => EvP.ret ?_)
          · obtain ⟨a, b, rfl⟩ := two_of (show l.length = 2 by omega)
            rw [w64 (by omega) (by omega), show ((d + 1 : Nat) : Int) - 1 = (d : Int) by omega, rdE_0, rdE_1]
            refine EvP.yes (by simp) (EvP.bindEq (spec_l4Ok_ev d _ _ _ (by omega)) (EvP.ite (fun h5 => ?_) (fun h5 => EvP.ret ?_)))
            · refine EvP.yes (by simp) (EvP.bindEq (spec_l4Ok_ev d _ _ _ (by omega)) (EvP.ret ?_))
              simp [h5]
            · simp [h5]
          · split
            · simp at h3
            · rfl
        · rw [← Bool.and_assoc, Bool.eq_false_iff.mpr h1]
          rfl
theorem spec_ExprValid_ev (op n : Int) (l : List S29) : EvP (fun k => spec_ExprValid.f k op n l) (· = vx 5 op n l) := by
  unfold spec_ExprValid.f
  exact EvP.bindEq (spec_l4Ok_ev 5 op n l (by omega)) (EvP.ret rfl)
theorem impl_ExprValid_ev (op n : Int) (l : List S29) : EvP (fun k => impl_ExprValid.f k op n l) (· = vx 5 op n l) := by
  unfold impl_ExprValid.f
  exact EvP.bindEq (impl_exprValid_ev 5 op n l (by omega)) (EvP.ret rfl)
def tri (e : S29) : Int × Int × List S29 := (e.f0, e.f1, e.f2)
mutual
def trE : S24 → S29
 | ⟨a, b, l⟩ => ⟨a, b, trEs l⟩
def trEs : List S24 → List S29
 | [] => []
 | x :: xs => trE x :: trEs xs
end
mutual
def cntE : S24 → Nat
 | ⟨_, _, l⟩ => cntEs l
def cntEs : List S24 → Nat
 | [] => 0
 | x :: xs => cntE x + 1 + cntEs xs
end
theorem trE_f (x : S24) : trE x = ⟨x.f0, x.f1, trEs x.f2⟩ := by
 cases x
 rw [trE]
theorem cntE_f (x : S24) : cntE x = cntEs x.f2 := by
 cases x
 rw [cntE]
theorem trEs_length : ∀ l : List S24, (trEs l).length = l.length
 | [] => by rw [trEs]; rfl
 | x :: xs => by rw [trEs, List.length_cons, List.length_cons, trEs_length xs]
theorem cntEs_length : ∀ l : List S24, l.length ≤ cntEs l
 | [] => Nat.zero_le _
 | x :: xs => by
  have := cntEs_length xs
  rw [cntEs, List.length_cons]
  omega
theorem cntEs_mem : ∀ (l : List S24) (x : S24), x ∈ l → cntE x ≤ cntEs l
 | y :: ys, x, h => by
  rw [cntEs]
  rcases List.mem_cons.1 h with rfl | h
  ·omega
  ·have := cntEs_mem ys x h
   omega
theorem cntEs_drop (l : List S24) (i : Nat) (h : i < l.length) : cntEs (l.drop i) = cntE l[i] + 1 + cntEs (l.drop (i + 1)) := by
 rw [List.drop_eq_getElem_cons h, cntEs]
theorem ind_LE {P : S24 → Prop} (h : ∀ e : S24, (∀ x ∈ e.f2, P x) → P e) (e : S24) : P e :=
 S24.rec (motive_1 := P) (motive_2 := fun l => ∀ x ∈ l, P x) (fun a b l ih => h ⟨a, b, l⟩ ih) (fun x hx => by simp at hx) (fun y ys h1 h2 x hx => by
  rcases List.mem_cons.1 hx with rfl | hx
  ·exact h1
  ·exact h2 x hx) e
theorem rdLE_nat (l : List S24) (i : Nat) (h : i < l.length) : rd_T24 l (i : Int) = l[i] := by
 unfold rd_T24
 rw [Int.toNat_natCast, List.getD_eq_getElem?_getD, List.getElem?_eq_getElem h]
 rfl
def lefts (c : Nat) (n : Int) : Int := if (c : Int) ≤ n then n - c else -1
theorem szExprS_l0 (l : List S24) (hl : l.length ≤ 1048576) (he : ∀ x ∈ l, ∀ n : Int, 0 ≤ n → n ≤ 1048576 → EvP (fun k => laws_szExpr.f k x.f0 x.f1 x.f2 n) (· = lefts (cntE x) n)) :
    ∀ (d j : Nat) (n : Int), j + d = l.length → 0 ≤ n → n ≤ 1048576 → EvP (fun k => laws_szExprS.l0 k l n (j : Int)) (· = lefts (cntEs (l.drop j) - d) n) := by
  intro d
  induction d with
  | zero =>
    intro j n hj h0 h1
    refine EvP.step (fun k => laws_szExprS.l0.eq_2 (k := k) ..) (EvP.no (by omega) (EvP.ret ?_))
    rw [List.drop_eq_nil_of_le (by omega)]
    unfold lefts
    rw [if_pos (by simp [cntEs]; omega)]
    simp [cntEs]
  | succ d ih =>
    intro j n hj h0 h1
    have hlt : j < l.length := by omega
    have hc := cntEs_drop l j hlt
    have hd : d ≤ cntEs (l.drop (j + 1)) := by
      have := cntEs_length (l.drop (j + 1))
      rw [List.length_drop] at this
      omega
    refine EvP.step (fun k => laws_szExprS.l0.eq_2 (k := k) ..) (EvP.yes (by omega) (EvP.yes (by omega) ?_))
    rw [rdLE_nat l j hlt, w64 (n := (j : Int) + 1) (by omega) (by omega)]
    refine EvP.bindEq (he _ (List.getElem_mem hlt) n h0 h1) ?_
    by_cases h2 : (cntE l[j] : Int) ≤ n
    · have e : lefts (cntE l[j]) n = n - cntE l[j] := if_pos h2
      rw [e]
      refine EvP.no (by omega) ?_
      refine (ih (j + 1) (n - cntE l[j]) (by omega) (by omega) (by omega)).mono fun a ha => ?_
      rw [ha]
      unfold lefts
      by_cases h3 : ((cntEs (l.drop (j + 1)) - d : Nat) : Int) ≤ n - cntE l[j]
      · rw [if_pos h3, if_pos (by omega)]
        omega
      · rw [if_neg h3, if_neg (by omega)]
    · have e : lefts (cntE l[j]) n = -1 := if_neg h2
      rw [e]
      refine EvP.yes (by omega) (EvP.ret ?_)
      unfold lefts
      rw [if_neg (by omega)]
theorem szExprS_of (l : List S24) (hl : l.length ≤ maxLen) (he : ∀ x ∈ l, ∀ n : Int, 0 ≤ n → n ≤ 1048576 → EvP (fun k => laws_szExpr.f k x.f0 x.f1 x.f2 n) (· = lefts (cntE x) n)) (n : Int) (h0 : 0 ≤ n) (h1 : n ≤ 1048576) :
    EvP (fun k => laws_szExprS.f k l n) (· = lefts (cntEs l) n) := by
  have hm : maxLen = 9223372036854775807 := rfl
  have hc := cntEs_length l
  refine EvP.step (fun k => laws_szExprS.f.eq_2 (k := k) ..) ?_
  rw [w64 (by omega) (by omega)]
  refine EvP.ite (fun h => EvP.ret ?_) (fun h => ?_)
  · unfold lefts
    rw [if_neg (by omega)]
  · refine (szExprS_l0 l (by omega) he l.length 0 (n - l.length) (by omega) (by omega) (by omega)).mono fun a ha => ?_
    rw [ha, List.drop_zero]
    unfold lefts
    by_cases h3 : ((cntEs l - l.length : Nat) : Int) ≤ n - l.length
    · rw [if_pos h3, if_pos (by omega)]
      omega
    · rw [if_neg h3, if_neg (by omega)]
theorem szExpr_ev (e : S24) : WF24 e → ∀ n : Int, 0 ≤ n → n ≤ 1048576 → EvP (fun k => laws_szExpr.f k e.f0 e.f1 e.f2 n) (· = lefts (cntE e) n) := by
  refine ind_LE (P := fun e => WF24 e → ∀ n : Int, 0 ≤ n → n ≤ 1048576 → EvP (fun k => laws_szExpr.f k e.f0 e.f1 e.f2 n) (· = lefts (cntE e) n)) (fun e ih hw n h0 h1 => ?_) e
  cases hw with
  | mk _ _ _ hl hx =>
    refine EvP.step (fun k => laws_szExpr.f.eq_2 (k := k) ..) ?_
    refine EvP.bindEq (szExprS_of e.f2 hl (fun x hm => ih x hm (hx x hm)) n h0 h1) ?_
    rw [cntE_f]
    refine EvP.ite (fun h => EvP.ret ?_) (fun h => EvP.ret rfl)
    unfold lefts at h ⊢
    by_cases h3 : (cntEs e.f2 : Int) ≤ n
    · rw [if_pos h3] at h
      omega
    · rw [if_neg h3]
theorem toExprS_l0 (l : List S24) (hl : l.length ≤ 1048576) (he : ∀ x ∈ l, EvP (fun k => laws_toExpr.f k x.f0 x.f1 x.f2) (· = tri (trE x))) :
    ∀ (d j : Nat) (m : List S29), j + d = l.length → m.length = l.length → EvP (fun k => laws_toExprS.l0 k l m (j : Int)) (· = m.take j ++ trEs (l.drop j)) := by
  intro d
  induction d with
  | zero =>
    intro j m hj hm
    refine EvP.step (fun k => laws_toExprS.l0.eq_2 (k := k) ..) (EvP.no (by omega) (EvP.ret ?_))
    rw [List.drop_eq_nil_of_le (by omega), List.take_of_length_le (by omega)]
    simp [trEs]
  | succ d ih =>
    intro j m hj hm
    have hlt : j < l.length := by omega
    refine EvP.step (fun k => laws_toExprS.l0.eq_2 (k := k) ..) (EvP.yes (by omega) (EvP.yes (by omega) ?_))
    rw [rdLE_nat l j hlt, w64 (n := (j : Int) + 1) (by omega) (by omega), Int.toNat_natCast]
    refine EvP.bindEq (he _ (List.getElem_mem hlt)) (EvP.yes (by omega) ?_)
    simp only [tri, etaE]
    refine (ih (j + 1) (m.set j (trE l[j])) (by omega) (by rw [List.length_set]; exact hm)).mono fun a ha => ?_
    rw [ha, List.take_succ_eq_append_getElem (by rw [List.length_set]; omega), List.getElem_set_self, List.take_set_of_le (by omega), List.append_assoc, List.drop_eq_getElem_cons hlt, trEs]
    rfl
theorem toExprS_of (l : List S24) (hl : l.length ≤ 1048576) (he : ∀ x ∈ l, EvP (fun k => laws_toExpr.f k x.f0 x.f1 x.f2) (· = tri (trE x))) : EvP (fun k => laws_toExprS.f k l) (· = trEs l) := by
  refine EvP.step (fun k => laws_toExprS.f.eq_2 (k := k) ..) (EvP.yes (by omega) (EvP.yes (by omega) ?_))
  exact toExprS_l0 l hl he l.length 0 _ (by omega) (by rw [List.length_replicate]; omega)
theorem toExpr_ev (e : S24) : cntE e ≤ 1048576 → EvP (fun k => laws_toExpr.f k e.f0 e.f1 e.f2) (· = tri (trE e)) := by
  refine ind_LE (P := fun e => cntE e ≤ 1048576 → EvP (fun k => laws_toExpr.f k e.f0 e.f1 e.f2) (· = tri (trE e))) (fun e ih hc => ?_) e
  rw [cntE_f] at hc
  have hl := cntEs_length e.f2
  refine EvP.step (fun k => laws_toExpr.f.eq_2 (k := k) ..) ?_
  refine EvP.bindEq (toExprS_of e.f2 (by omega) (fun x hm => ih x hm (by have := cntEs_mem e.f2 x hm; omega))) (EvP.ret ?_)
  rw [trE_f]
  rfl
theorem eqExprS_l0 (m : List S29) (hl : m.length ≤ 1048576) (he : ∀ x ∈ m, EvP (fun k => laws_eqExpr.f k x.f0 x.f1 x.f2 x.f0 x.f1 x.f2) (· = true)) :
    ∀ (d j : Nat), j + d = m.length → EvP (fun k => laws_eqExprS.l0 k m m (j : Int)) (· = true) := by
  intro d
  induction d with
  | zero =>
    intro j hj
    exact EvP.step (fun k => laws_eqExprS.l0.eq_2 (k := k) ..) (EvP.no (by omega) (EvP.ret rfl))
  | succ d ih =>
    intro j hj
    have hlt : j < m.length := by omega
    refine EvP.step (fun k => laws_eqExprS.l0.eq_2 (k := k) ..) (EvP.yes (by omega) (EvP.yes (by omega) (EvP.yes (by omega) ?_)))
    rw [rdE_nat m j hlt, w64 (n := (j : Int) + 1) (by omega) (by omega)]
    exact EvP.bindEq (he _ (List.getElem_mem hlt)) (EvP.yes rfl (ih (j + 1) (by omega)))
theorem eqExprS_of (m : List S29) (hl : m.length ≤ 1048576) (he : ∀ x ∈ m, EvP (fun k => laws_eqExpr.f k x.f0 x.f1 x.f2 x.f0 x.f1 x.f2) (· = true)) : EvP (fun k => laws_eqExprS.f k m m) (· = true) :=
  EvP.step (fun k => laws_eqExprS.f.eq_2 (k := k) ..) (EvP.yes rfl (eqExprS_l0 m hl he m.length 0 (by omega)))
inductive Short : S29 → Prop
 | mk (x : S29) (h : x.f2.length ≤ 1048576) (g : ∀ y ∈ x.f2, Short y) : Short x
theorem eqExpr_short (e : S29) (h : Short e) : EvP (fun k => laws_eqExpr.f k e.f0 e.f1 e.f2 e.f0 e.f1 e.f2) (· = true) := by
  induction h with
  | mk x h g ih =>
    refine EvP.step (fun k => laws_eqExpr.f.eq_2 (k := k) ..) (EvP.yes rfl (EvP.yes rfl ?_))
    exact EvP.bindEq (eqExprS_of x.f2 h ih) (EvP.yes rfl (EvP.ret rfl))
theorem trEs_mem {l : List S24} {y : S29} (h : y ∈ trEs l) : ∃ x ∈ l, y = trE x := by
 induction l with
 | nil => simp [trEs] at h
 | cons a l ih =>
  rw [trEs] at h
  rcases List.mem_cons.1 h with rfl | h
  ·exact ⟨a, List.mem_cons_self, rfl⟩
  ·obtain ⟨x, hx, e⟩ := ih h
   exact ⟨x, List.mem_cons_of_mem _ hx, e⟩
theorem short_trE (e : S24) : cntE e ≤ 1048576 → Short (trE e) := by
 refine ind_LE (P := fun e => cntE e ≤ 1048576 → Short (trE e)) (fun e ih hc => ?_) e
 rw [cntE_f] at hc
 have hl := cntEs_length e.f2
 rw [trE_f]
 refine .mk _ (by rw [trEs_length]; omega) fun y hy => ?_
 obtain ⟨x, hx, rfl⟩ := trEs_mem hy
 exact ih x hx (by have := cntEs_mem e.f2 x hx; omega)
end Go.Proofs.YtjamfkpgmkhbnaaDoor.PA

namespace Go.Proofs.YtjamfkpgmkhbnaaDoor.PA
open Go.RowKit Go.Proofs.YtjamfkpgmkhbnaaDoor.Core Go.Proofs.YtjamfkpgmkhbnaaDoorW.PrintWords
def ba (l : List UInt8) : ByteArray := ⟨l.toArray⟩
theorem ba_size (l : List UInt8) : (ba l).size = l.length := by simp [ba, ByteArray.size]
theorem ba_data (l : List UInt8) : (ba l).data.toList = l := by simp [ba]
theorem ba_eta (s : ByteArray) : ba s.data.toList = s := by
 cases s
 simp [ba]
theorem ba_of {s t : ByteArray} (h : s.data.toList = t.data.toList) : s = t := by rw [← ba_eta s, h, ba_eta]
theorem ba_append (l m : List UInt8) : ba l ++ ba m = ba (l ++ m) := ba_of (by simp [ba])
theorem ba_extract (l : List UInt8) (i j : Nat) : (ba l).extract i j = ba ((l.take j).drop i) := ba_of (by
 simp only [ba, ByteArray.data_extract, Array.toList_extract, List.extract_eq_take_drop]
 rw [List.drop_take])
theorem ba_bt (l : List UInt8) (i : Nat) (h : i < l.length) : bt (ba l) (i : Int) = (l[i].toNat : Int) := by
 unfold bt
 rw [dif_pos (by rw [Int.toNat_natCast, ba_size]; exact h)]
 simp [ba, ByteArray.getElem_eq_getElem_data]
theorem toList_loop (s : ByteArray) : ∀ (d i : Nat) (r : List UInt8), i + d = s.size → ByteArray.toList.loop s i r = r.reverse ++ s.data.toList.drop i
 | 0, i, r, h => by
  rw [ByteArray.toList.loop, if_neg (by omega), List.drop_eq_nil_of_le (by show s.size ≤ i; omega), List.append_nil]
 | d + 1, i, r, h => by
  have hi : i < s.data.toList.length := by show i < s.size; omega
  rw [ByteArray.toList.loop, if_pos (by omega), toList_loop s d (i + 1) _ (by omega), List.drop_eq_getElem_cons hi, List.reverse_cons, List.append_assoc]
  congr 1
  simp only [List.singleton_append, List.cons.injEq, and_true]
  show s.data[i]! = _
  exact getElem!_pos s.data i hi
theorem toList_data (s : ByteArray) : s.toList = s.data.toList := by
 unfold ByteArray.toList
 rw [toList_loop s s.size 0 [] (by omega)]
 rfl
theorem ba_toList (l : List UInt8) : (ba l).toList = l := by rw [toList_data, ba_data]
theorem toList_inj {s t : ByteArray} : s.toList = t.toList ↔ s = t := by
 rw [toList_data, toList_data]
 exact ⟨ba_of, fun h => by rw [h]⟩
def isD (c : UInt8) : Bool := decide (48 ≤ c.toNat) && decide (c.toNat ≤ 57)
def isL (c : UInt8) : Bool := decide (97 ≤ c.toNat) && decide (c.toNat ≤ 122)
def syms : List (List UInt8) := [[61, 61], [60, 60], [62, 62], [124], [94], [38], [60], [43], [45], [42], [47], [37], [40], [41], [123], [125], [61], [59]]
inductive Tok : List UInt8 → Prop
 | dig (c : UInt8) (t : List UInt8) (h : ∀ x ∈ c :: t, isD x = true) : Tok (c :: t)
 | let_ (c : UInt8) (t : List UInt8) (h : ∀ x ∈ c :: t, isL x = true) : Tok (c :: t)
 | sym (t : List UInt8) (h : t ∈ syms) : Tok t
def Rest (r : List UInt8) : Prop := r = [] ∨ ∃ q, r = 32 :: q
theorem Tok.pos {t : List UInt8} (h : Tok t) : 0 < t.length := by
 cases h with
 | dig => simp
 | let_ => simp
 | sym t h =>
  simp only [syms, List.mem_cons, List.not_mem_nil, or_false] at h
  rcases h with h | h | h | h | h | h | h | h | h | h | h | h | h | h | h | h | h | h <;> subst h <;> decide
def joinT : List (List UInt8) → List UInt8
 | [] => []
 | [x] => x
 | x :: y :: r => x ++ 32 :: joinT (y :: r)
theorem joinT_lib : ∀ l : List (List UInt8), Lib.join l [32] = joinT l
 | [] => rfl
 | [x] => Lib.join_one x _
 | x :: y :: r => by
  rw [Lib.join_cons, joinT, ← joinT_lib (y :: r), Lib.join_cons]
  simp [Lib.joinTail]
theorem joinT_cons (x : List UInt8) {l : List (List UInt8)} (h : l ≠ []) : joinT (x :: l) = x ++ 32 :: joinT l := by
 cases l with
 | nil => exact absurd rfl h
 | cons y r => rfl
theorem joinT_append {l m : List (List UInt8)} (hl : l ≠ []) (hm : m ≠ []) : joinT (l ++ m) = joinT l ++ 32 :: joinT m := by
 induction l with
 | nil => exact absurd rfl hl
 | cons x r ih =>
  cases r with
  | nil => rw [List.singleton_append, joinT_cons x hm]; rfl
  | cons y q =>
   rw [List.cons_append, joinT_cons x (by simp), ih (by simp), joinT_cons x (by simp)]
   simp
theorem decDigits_isD (u : Nat) : ∀ c ∈ Lib.decDigits u, isD c = true := by
 induction u using Nat.strongRecOn with
 | _ u ih =>
  intro c hc
  rw [Lib.decDigits] at hc
  split at hc
  ·rw [List.mem_singleton] at hc
   subst hc
   have : u = 0 ∨ u = 1 ∨ u = 2 ∨ u = 3 ∨ u = 4 ∨ u = 5 ∨ u = 6 ∨ u = 7 ∨ u = 8 ∨ u = 9 := by omega
   rcases this with h | h | h | h | h | h | h | h | h | h <;> subst h <;> decide
  ·rcases List.mem_append.1 hc with h | h
   ·exact ih _ (by omega) c h
   ·rw [List.mem_singleton] at h
    subst h
    have : u % 10 = 0 ∨ u % 10 = 1 ∨ u % 10 = 2 ∨ u % 10 = 3 ∨ u % 10 = 4 ∨ u % 10 = 5 ∨ u % 10 = 6 ∨ u % 10 = 7 ∨ u % 10 = 8 ∨ u % 10 = 9 := by omega
    rcases this with h | h | h | h | h | h | h | h | h | h <;> rw [h] <;> decide
theorem decDigits_pos (u : Nat) : 0 < (Lib.decDigits u).length := by
 rw [Lib.decDigits]
 split
 ·exact Nat.one_pos
 ·simp
theorem decDigits_len (d : Nat) : ∀ u : Nat, u < 10 ^ (d + 1) → (Lib.decDigits u).length ≤ d + 1 := by
 induction d with
 | zero =>
  intro u hu
  rw [Lib.decDigits, dif_pos (by omega)]
  exact Nat.le_refl _
 | succ d ih =>
  intro u hu
  rw [Lib.decDigits]
  split
  ·simp
  ·have := ih (u / 10) (by rw [Nat.pow_succ] at hu; omega)
   simp only [List.length_append, List.length_singleton]
   omega
def dec (n : Int) : List UInt8 := Lib.decDigits n.toNat
theorem dec_tok (n : Int) : Tok (dec n) := by
 have h := decDigits_isD n.toNat
 have h0 := decDigits_pos n.toNat
 unfold dec
 cases hd : Lib.decDigits n.toNat with
 | nil => rw [hd] at h0; simp at h0
 | cons c t => rw [hd] at h; exact .dig c t h
theorem dec_len {n : Int} (h0 : 0 ≤ n) (h : n ≤ 99999) : (dec n).length ≤ 5 := decDigits_len 4 n.toNat (by omega)
theorem dec_itoa {n : Int} (h : 0 ≤ n) : Lib.itoa n = dec n := by
 unfold Lib.itoa dec
 rw [if_neg (by omega)]
def lev (op : Int) : Int := if op ≤ 6 then op else if op = 7 then 6 else if op ≤ 9 then 7 else 8
def opB (op : Int) : List UInt8 := [[124], [94], [38], [61, 61], [60], [60, 60], [62, 62], [43], [45], [42], [47], [37]].getD (op - 1).toNat []
theorem opB_tok {op : Int} (h : 1 ≤ op ∧ op ≤ 12) : Tok (opB op) := by
 have : op = 1 ∨ op = 2 ∨ op = 3 ∨ op = 4 ∨ op = 5 ∨ op = 6 ∨ op = 7 ∨ op = 8 ∨ op = 9 ∨ op = 10 ∨ op = 11 ∨ op = 12 := by omega
 apply Tok.sym
 rcases this with h | h | h | h | h | h | h | h | h | h | h | h <;> subst h <;> decide
def varB (v : Int) : List UInt8 := [(97 + v).toNat.toUInt8]
theorem varB_tok {v : Int} (h : 0 ≤ v ∧ v < 4) : Tok (varB v) := by
 have : v = 0 ∨ v = 1 ∨ v = 2 ∨ v = 3 := by omega
 rcases this with h | h | h | h <;> subst h <;> exact .let_ _ _ (by decide)
def wrapT (l : List (List UInt8)) (b : Bool) : List (List UInt8) := if b = true then [40] :: (l ++ [[41]]) else l
namespace X
def lev : X → Int
 | num _ => 9
 | var _ => 9
 | bin op _ _ => PA.lev op
def toks : X → List (List UInt8)
 | num n => [dec n]
 | var v => [varB v]
 | bin op a b => wrapT a.toks (decide (a.lev < PA.lev op)) ++ opB op :: wrapT b.toks (decide (b.lev ≤ PA.lev op))
end X
theorem wrapT_tok {l : List (List UInt8)} {b : Bool} (h : ∀ t ∈ l, Tok t) : ∀ t ∈ wrapT l b, Tok t := by
 unfold wrapT
 split
 ·intro t ht
  rcases List.mem_cons.1 ht with h1 | h1
  ·subst h1
   exact .sym _ (by decide)
  ·rcases List.mem_append.1 h1 with h2 | h2
   ·exact h t h2
   ·rw [List.mem_singleton] at h2
    subst h2
    exact .sym _ (by decide)
 ·exact h
theorem toks_tok : ∀ x : X, x.ok → ∀ t ∈ x.toks, Tok t
 | .num n, h => by
  intro t ht
  rw [X.toks, List.mem_singleton] at ht
  subst ht
  exact dec_tok n
 | .var v, h => by
  intro t ht
  rw [X.toks, List.mem_singleton] at ht
  subst ht
  exact varB_tok h
 | .bin op a b, h => by
  intro t ht
  rw [X.toks] at ht
  rcases List.mem_append.1 ht with h1 | h1
  ·exact wrapT_tok (toks_tok a h.2.1) t h1
  ·rcases List.mem_cons.1 h1 with h2 | h2
   ·subst h2
    exact opB_tok h.1
   ·exact wrapT_tok (toks_tok b h.2.2) t h2
theorem wrapT_len (l : List (List UInt8)) (b : Bool) : (wrapT l b).length ≤ l.length + 2 := by
 unfold wrapT
 split
 ·simp
 ·omega
theorem toks_len : ∀ x : X, x.toks.length + 4 ≤ 5 * x.size
 | .num _ => by simp [X.toks, X.size]
 | .var _ => by simp [X.toks, X.size]
 | .bin op a b => by
  have h1 := wrapT_len a.toks (decide (a.lev < lev op))
  have h2 := wrapT_len b.toks (decide (b.lev ≤ lev op))
  have h3 := toks_len a
  have h4 := toks_len b
  rw [X.toks, List.length_append, List.length_cons, X.size]
  omega
end Go.Proofs.YtjamfkpgmkhbnaaDoor.PA

namespace Go.Proofs.YtjamfkpgmkhbnaaDoor.PA
open Go.RowKit Go.Proofs.YtjamfkpgmkhbnaaDoorW.PrintWords Go.Proofs.YtjamfkpgmkhbnaaDoorW.PrintMore Go.Proofs.YtjamfkpgmkhbnaaDoor.Core
theorem impl_isDigit_eq (c : UInt8) : impl_isDigit.f (c.toNat : Int) = some (isD c) := by
 unfold impl_isDigit.f isD
 by_cases h : ((c.toNat : Int)) ≥ 48
 ·rw [if_pos h, decide_eq_true (show 48 ≤ c.toNat by omega), Bool.true_and]
  congr 1
  exact decide_eq_decide.mpr (by omega)
 ·rw [if_neg h, decide_eq_false (show ¬ 48 ≤ c.toNat by omega), Bool.false_and]
theorem impl_isLetter_eq (c : UInt8) : impl_isLetter.f (c.toNat : Int) = some (isL c) := by
 unfold impl_isLetter.f isL
 by_cases h : ((c.toNat : Int)) ≥ 97
 ·rw [if_pos h, decide_eq_true (show 97 ≤ c.toNat by omega), Bool.true_and]
  congr 1
  exact decide_eq_decide.mpr (by omega)
 ·rw [if_neg h, decide_eq_false (show ¬ 97 ≤ c.toNat by omega), Bool.false_and]
def isM (m : Bool) (c : UInt8) : Bool := if m = true then isD c else isL c
theorem isM_eq (m : Bool) (c : UInt8) : (if m = true then impl_isDigit.f (c.toNat : Int) else impl_isLetter.f (c.toNat : Int)) = some (isM m c) := by
 cases m
 ·rw [if_neg Bool.false_ne_true, impl_isLetter_eq]
  rfl
 ·rw [if_pos rfl, impl_isDigit_eq]
  rfl
theorem l1_ev (l : List UInt8) (hl : l.length ≤ 1000000000) (m : Bool) : ∀ (d j : Nat), j + d = l.length → EvP (fun k => impl_tokenLength.l1 k (ba l) m (j : Int)) (· = ((j + ((l.drop j).takeWhile (isM m)).length : Nat) : Int))
  | 0, j, h => by
    refine EvP.step (fun k => impl_tokenLength.l1.eq_2 (k := k) ..) (EvP.no (by rw [ba_size]; omega) (EvP.ret ?_))
    rw [List.drop_eq_nil_of_le (by omega)]
    simp
  | d + 1, j, h => by
    have hj : j < l.length := by omega
    refine EvP.step (fun k => impl_tokenLength.l1.eq_2 (k := k) ..) (EvP.yes (by rw [ba_size]; omega) (EvP.yes (by omega) ?_))
    rw [ba_bt l j hj]
    refine EvP.bind0 (isM_eq m l[j]) ?_
    rw [List.drop_eq_getElem_cons hj]
    cases hm : isM m l[j] with
    | true =>
      refine EvP.yes rfl ?_
      rw [w64 (by omega) (by omega), show (j : Int) + 1 = ((j + 1 : Nat) : Int) by omega]
      refine (l1_ev l hl m d (j + 1) (by omega)).mono (fun a ha => ?_)
      rw [ha, List.takeWhile_cons, if_pos hm, List.length_cons]
      congr 1
      omega
    | false =>
      refine EvP.no Bool.false_ne_true (EvP.ret ?_)
      rw [List.takeWhile_cons, if_neg (by rw [hm]; exact Bool.false_ne_true)]
      simp
theorem l1_0 (l : List UInt8) (hl : l.length ≤ 1000000000) (m : Bool) : EvP (fun k => impl_tokenLength.l1 k (ba l) m 0) (· = ((l.takeWhile (isM m)).length : Int)) :=
  (l1_ev l hl m l.length 0 (by omega)).mono (fun a ha => by rw [ha]; simp)
theorem takeWhile_run {p : UInt8 → Bool} {t r : List UInt8} (ht : ∀ x ∈ t, p x = true) (hr : Rest r) (h32 : p 32 = false) : (t ++ r).takeWhile p = t := by
 rw [List.takeWhile_append_of_pos ht]
 rcases hr with rfl | ⟨q, rfl⟩
 ·simp
 ·rw [List.takeWhile_cons, if_neg (by rw [h32]; exact Bool.false_ne_true), List.append_nil]
theorem takeWhile_no {p : UInt8 → Bool} {c : UInt8} {t : List UInt8} (h : p c = false) : (c :: t).takeWhile p = [] := by
 rw [List.takeWhile_cons, if_neg (by rw [h]; exact Bool.false_ne_true)]
theorem isL_isD {c : UInt8} (h : isL c = true) : isD c = false := by
 unfold isL at h
 unfold isD
 simp only [Bool.and_eq_true, decide_eq_true_eq] at h
 rw [decide_eq_false (p := c.toNat ≤ 57) (by omega), Bool.and_false]
def pre2 (c : UInt8) : List UInt8 → Bool
 | a :: b :: _ => a == c && b == c
 | _ => false
theorem hasPrefix2 (l : List UInt8) (c : UInt8) (hl : l.length ≤ 1000000000) : strings_HasPrefix.f (ba l) ⟨#[c, c]⟩ = some (pre2 c l) := by
 unfold strings_HasPrefix.f stringslite_HasPrefix.f
 have hs : (⟨#[c, c]⟩ : ByteArray).size = 2 := rfl
 rw [hs, ba_size]
 by_cases h : (l.length : Int) ≥ ((2 : Nat) : Int)
 ·rw [if_pos h, if_pos (by omega), if_pos h]
  simp only [Option.bind_some]
  congr 1
  match l, h with
  | a :: b :: r, _ =>
   have e : (ba (a :: b :: r)).extract 0 (((2 : Nat) : Int) : Int).toNat = ba [a, b] := by
    rw [ba_extract]
    rfl
   rw [e, ba_toList, show (⟨#[c, c]⟩ : ByteArray) = ba [c, c] from rfl, ba_toList]
   simp [pre2]
  | [a], h => simp at h
  | [], h => simp at h
 ·rw [if_neg h]
  simp only [Option.bind_some]
  congr 1
  match l, h with
  | a :: b :: r, h => simp at h; omega
  | [a], _ => rfl
  | [], _ => rfl
theorem ba_ne (c : UInt8) (q : List UInt8) : ¬ (ba (c :: q)).toList = ([] : List UInt8) := by
 rw [ba_toList]
 simp
theorem ba_bt0 (c : UInt8) (q : List UInt8) : bt (ba (c :: q)) 0 = (c.toNat : Int) := ba_bt (c :: q) 0 (by simp)
theorem st2_sym (t r : List UInt8) (hl : (t ++ r).length ≤ 1000000000) (ht : t ∈ syms) (hr : Rest r) : impl_tokenLength.st2 (ba (t ++ r)) 0 = some (t.length : Int) := by
 simp only [impl_tokenLength.st2, impl_tokenLength.fin, hasPrefix2 _ _ hl, Option.bind_some]
 clear hl
 simp only [syms, List.mem_cons, List.not_mem_nil, or_false] at ht
 rcases hr with rfl | ⟨q, rfl⟩
 all_goals
  rcases ht with h | h | h | h | h | h | h | h | h | h | h | h | h | h | h | h | h | h <;> subst h
 all_goals
  simp only [List.cons_append, List.nil_append, List.append_nil]
 all_goals
  first
  | (simp [pre2]; done)
  | (rw [if_neg (by simp [pre2]), if_neg (by simp [pre2]), if_neg (by simp [pre2]), if_neg (ba_ne _ _), ba_bt0]; rfl)
theorem syms_no {t r : List UInt8} (ht : t ∈ syms) (m : Bool) : (t ++ r).takeWhile (isM m) = [] := by
 simp only [syms, List.mem_cons, List.not_mem_nil, or_false] at ht
 rcases ht with h | h | h | h | h | h | h | h | h | h | h | h | h | h | h | h | h | h <;> subst h <;> exact takeWhile_no (by cases m <;> decide)
theorem tokenLength_ev (t r : List UInt8) (hl : (t ++ r).length ≤ 1000000000) (ht : Tok t) (hr : Rest r) : EvP (fun k => impl_tokenLength.f k (ba (t ++ r))) (· = (t.length : Int)) := by
  have h0 := ht.pos
  show EvP (fun k => (impl_tokenLength.l1 k (ba (t ++ r)) true 0).bind fun d => if 0 < d then some d else (impl_tokenLength.l1 k (ba (t ++ r)) false 0).bind fun c => if 0 < c then some c else impl_tokenLength.st2 (ba (t ++ r)) 0) _
  refine EvP.bindEq (l1_0 _ hl true) ?_
  cases ht with
  | dig c t h =>
    rw [takeWhile_run (p := isM true) h hr (by decide)]
    exact EvP.yes (by omega) (EvP.ret rfl)
  | let_ c t h =>
    rw [List.cons_append, takeWhile_no (p := isM true) (isL_isD (h c (by simp))), ← List.cons_append]
    refine EvP.no (by simp) (EvP.bindEq (l1_0 _ hl false) ?_)
    rw [takeWhile_run (p := isM false) h hr (by decide)]
    exact EvP.yes (by omega) (EvP.ret rfl)
  | sym t h =>
    rw [syms_no h]
    refine EvP.no (by simp) (EvP.bindEq (l1_0 _ hl false) ?_)
    rw [syms_no h]
    exact EvP.no (by simp) (EvP.of (st2_sym t r hl h hr) rfl)
theorem TokenValid_ev (t : List UInt8) (hl : t.length ≤ 1000000000) (ht : Tok t) : EvP (fun k => impl_TokenValid.f k (ba t)) (· = true) := by
  unfold impl_TokenValid.f
  have h := tokenLength_ev t [] (by simpa using hl) ht (.inl rfl)
  rw [List.append_nil] at h
  have h0 := ht.pos
  refine EvP.no (by rw [ba_toList]; intro e; rw [e] at h0; simp at h0) (EvP.bindEq h (EvP.ret ?_))
  rw [ba_size]
  simp
theorem rdB (L : List (List UInt8)) (j : Nat) (h : j < L.length) : rdOf ByteArray.empty (L.map ba) (j : Int) = ba L[j] := by
 unfold rdOf
 rw [Int.toNat_natCast, List.getD_eq_getElem?_getD, List.getElem?_map, List.getElem?_eq_getElem h]
 rfl
theorem TokensText_l0 (L : List (List UInt8)) (hn : L.length ≤ 1000000) (hs : ∀ t ∈ L, t.length ≤ 1000000) (ht : ∀ t ∈ L, Tok t) (hj : (joinT L).length ≤ 1000000000) : ∀ (d j : Nat), j + d = L.length → EvP (fun k => impl_TokensText.l0 k (L.map ba) (L.map ba) ((L.map ba).length : Int) (j : Int)) (· = ba (joinT L))
  | 0, j, h => by
    refine EvP.step (fun k => impl_TokensText.l0.eq_2 (k := k) ..) (EvP.no (by rw [List.length_map]; omega) ?_)
    have e : strings_Join.f (L.map ba) (⟨#[32]⟩ : ByteArray) = some (ba (joinT L)) := by
      unfold strings_Join.f
      have e2 : joinB (L.map ba) (⟨#[32]⟩ : ByteArray) = joinT L := by
        unfold joinB
        rw [List.map_map, show ((fun x : ByteArray => x.data.toList) ∘ ba) = id from funext ba_data, List.map_id]
        exact joinT_lib L
      rw [e2, if_pos (by rw [List.length_map]; omega), if_pos (by omega)]
      rfl
    exact EvP.bind0 e (EvP.ret rfl)
  | d + 1, j, h => by
    have hj' : j < L.length := by omega
    refine EvP.step (fun k => impl_TokensText.l0.eq_2 (k := k) ..) (EvP.yes (by rw [List.length_map]; omega) (EvP.yes (by omega) (EvP.yes (by rw [List.length_map]; omega) ?_)))
    rw [rdB L j hj']
    refine EvP.bindEq (TokenValid_ev _ (by have := hs L[j] (by simp); omega) (ht L[j] (by simp))) (EvP.yes rfl ?_)
    rw [w64 (by omega) (by omega), show (j : Int) + 1 = ((j + 1 : Nat) : Int) by omega]
    exact TokensText_l0 L hn hs ht hj d (j + 1) (by omega)
theorem impl_TokensText_ev (L : List (List UInt8)) (hn : L.length ≤ 1000000) (hs : ∀ t ∈ L, t.length ≤ 1000000) (ht : ∀ t ∈ L, Tok t) (hj : (joinT L).length ≤ 1000000000) : EvP (fun k => impl_TokensText.f k (L.map ba)) (· = ba (joinT L)) :=
  TokensText_l0 L hn hs ht hj L.length 0 (by omega)
theorem kindD {c : UInt8} (h : isD c = true) : EvP (fun k => spec_l3Kind.f k (c.toNat : Int)) (· = 1) := by
  unfold isD at h
  simp only [Bool.and_eq_true, decide_eq_true_eq] at h
  unfold spec_l3Kind.f
  refine EvP.yes (by omega) (EvP.step (fun k => spec_l3Kind.j0.eq_2 (k := k) ..) (EvP.yes (by rw [decide_eq_true_eq]; omega) (EvP.ret rfl)))
theorem kindL {c : UInt8} (h : isL c = true) : EvP (fun k => spec_l3Kind.f k (c.toNat : Int)) (· = 2) := by
  unfold isL at h
  simp only [Bool.and_eq_true, decide_eq_true_eq] at h
  unfold spec_l3Kind.f
  refine EvP.yes (by omega) (EvP.step (fun k => spec_l3Kind.j0.eq_2 (k := k) ..) (EvP.no (by rw [decide_eq_true_eq]; omega) (EvP.yes (by omega) ?_)))
  exact EvP.step (fun k => spec_l3Kind.j1.eq_2 (k := k) ..) (EvP.yes (by rw [decide_eq_true_eq]; omega) (EvP.ret rfl))
theorem l3Run_l0 (t : List UInt8) (hl : t.length ≤ 1000000000) (h0 : 0 < t.length) (n : Int) (hk : ∀ x ∈ t, EvP (fun k => spec_l3Kind.f k (x.toNat : Int)) (· = n)) : ∀ (d j : Nat), j + d = t.length → EvP (fun k => spec_l3Run.l0 k (ba t) 0 (j : Int)) (· = (t.length : Int))
  | 0, j, h => EvP.step (fun k => spec_l3Run.l0.eq_2 (k := k) ..) (EvP.no (by rw [ba_size]; omega) (EvP.ret (by omega)))
  | d + 1, j, h => by
    have hj : j < t.length := by omega
    refine EvP.step (fun k => spec_l3Run.l0.eq_2 (k := k) ..) (EvP.yes (by rw [ba_size]; omega) (EvP.yes (by omega) ?_))
    rw [ba_bt t j hj, show bt (ba t) 0 = (t[0].toNat : Int) from ba_bt t 0 h0]
    refine EvP.bindEq (hk _ (by simp)) (EvP.yes (by omega) (EvP.yes (by rw [ba_size]; omega) (EvP.bindEq (hk _ (by simp)) (EvP.yes rfl ?_))))
    rw [w64 (by omega) (by omega), show (j : Int) + 1 = ((j + 1 : Nat) : Int) by omega]
    exact l3Run_l0 t hl h0 n hk d (j + 1) (by omega)
theorem l3End_sym (t : List UInt8) (h : t ∈ syms) : EvP (fun k => spec_l3End.f k (ba t) 0) (· = (t.length : Int)) := by
  refine Ev.evp (Ev.of (spec_l3End.mono _ _) (k := 60) ?_)
  simp only [syms, List.mem_cons, List.not_mem_nil, or_false] at h
  rcases h with h | h | h | h | h | h | h | h | h | h | h | h | h | h | h | h | h | h <;> subst h <;> kernel_rfl
theorem l3End_ev (t : List UInt8) (hl : t.length ≤ 1000000000) (ht : Tok t) : EvP (fun k => spec_l3End.f k (ba t) 0) (· = (t.length : Int)) := by
  have h0 := ht.pos
  cases ht with
  | dig c t h =>
    unfold spec_l3End.f
    refine EvP.yes (by omega) (EvP.yes (by rw [ba_size]; omega) ?_)
    rw [ba_bt0]
    refine EvP.bindEq (kindD (h c (by simp))) (EvP.yes rfl (EvP.step (fun k => spec_l3End.j0.eq_2 (k := k) ..) (EvP.yes rfl (EvP.bindEq ?_ (EvP.ret rfl)))))
    exact l3Run_l0 (c :: t) hl h0 1 (fun x hx => kindD (h x hx)) (c :: t).length 0 (by omega)
  | let_ c t h =>
    unfold spec_l3End.f
    refine EvP.yes (by omega) (EvP.yes (by rw [ba_size]; omega) ?_)
    rw [ba_bt0]
    refine EvP.bindEq (kindL (h c (by simp))) (EvP.no (by omega) (EvP.step (fun k => spec_l3End.j0.eq_2 (k := k) ..) (EvP.yes rfl (EvP.bindEq ?_ (EvP.ret rfl)))))
    exact l3Run_l0 (c :: t) hl h0 2 (fun x hx => kindL (h x hx)) (c :: t).length 0 (by omega)
  | sym t h => exact l3End_sym t h
theorem spec_TokenValid_ev (t : List UInt8) (hl : t.length ≤ 1000000000) (ht : Tok t) : EvP (fun k => spec_TokenValid.f k (ba t)) (· = true) := by
  unfold spec_TokenValid.f
  have h0 := ht.pos
  refine EvP.no (by rw [ba_toList]; intro e; rw [e] at h0; simp at h0) (EvP.bindEq (l3End_ev t hl ht) (EvP.ret ?_))
  rw [ba_size]
  simp
theorem joinT_snoc {l : List (List UInt8)} (h : l ≠ []) (x : List UInt8) : joinT (l ++ [x]) = joinT l ++ 32 :: x := joinT_append h (by simp)
theorem joinT_take_len (L : List (List UInt8)) : ∀ j : Nat, (joinT (L.take j)).length ≤ (joinT L).length := by
 induction L with
 | nil => intro j; simp
 | cons x r ih =>
  intro j
  cases j with
  | zero => simp [joinT]
  | succ j =>
   rw [List.take_succ_cons]
   cases r with
   | nil => simp [joinT]
   | cons y q =>
    cases j with
    | zero => simp [joinT]
    | succ j =>
     have := ih (j + 1)
     rw [joinT_cons x (by simp), joinT_cons x (by simp)]
     simp only [List.length_append, List.length_cons] at this ⊢
     omega
theorem specText_l0 (L : List (List UInt8)) (hn : L.length ≤ 1000000) (hs : ∀ t ∈ L, t.length ≤ 1000000) (ht : ∀ t ∈ L, Tok t) (hj : (joinT L).length ≤ 1000000000) : ∀ (d j : Nat), j + d = L.length → EvP (fun k => spec_TokensText.l0 k (L.map ba) (ba (joinT (L.take j))) (j : Int)) (· = ba (joinT L))
  | 0, j, h => EvP.step (fun k => spec_TokensText.l0.eq_2 (k := k) ..) (EvP.no (by rw [List.length_map]; omega) (EvP.ret (by rw [List.take_of_length_le (by omega)])))
  | d + 1, j, h => by
    have hj' : j < L.length := by omega
    have h1 := joinT_take_len L j
    have h2 := hs L[j] (by simp)
    refine EvP.step (fun k => spec_TokensText.l0.eq_2 (k := k) ..) (EvP.yes (by rw [List.length_map]; omega) (EvP.yes (by omega) ?_))
    rw [rdB L j hj']
    refine EvP.bindEq (spec_TokenValid_ev _ (by omega) (ht L[j] (by simp))) (EvP.yes rfl ?_)
    have e1 : L.take (j + 1) = L.take j ++ [L[j]] := by rw [List.take_succ_eq_append_getElem hj']
    have ih := specText_l0 L hn hs ht hj d (j + 1) (by omega)
    rw [show ((j + 1 : Nat) : Int) = wrap64 ((j : Int) + 1) by rw [w64 (by omega) (by omega)]; omega] at ih
    refine EvP.ite (fun hp => ?_) (fun hp => ?_)
    · refine EvP.yes (by rw [ba_size]; omega) ?_
      rw [show (⟨#[32]⟩ : ByteArray) = ba [32] from rfl, ba_append]
      refine EvP.yes (by rw [ba_size, ba_size, List.length_append]; show _ + 1 + _ ≤ _; omega) ?_
      rw [ba_append]
      have e2 : joinT (L.take j) ++ [32] ++ L[j] = joinT (L.take (j + 1)) := by
        rw [e1, joinT_snoc (by intro e; have := congrArg List.length e; rw [List.length_take, List.length_nil] at this; omega)]
        simp
      rw [e2]
      exact ih
    · have hj0 : j = 0 := by omega
      subst hj0
      refine EvP.yes (by rw [ba_size, ba_size]; omega) ?_
      rw [ba_append]
      have e2 : joinT (L.take 0) ++ L[0] = joinT (L.take (0 + 1)) := by
        rw [e1]
        rfl
      rw [e2]
      exact ih
theorem spec_TokensText_ev (L : List (List UInt8)) (hn : L.length ≤ 1000000) (hs : ∀ t ∈ L, t.length ≤ 1000000) (ht : ∀ t ∈ L, Tok t) (hj : (joinT L).length ≤ 1000000000) : EvP (fun k => spec_TokensText.f k (L.map ba)) (· = ba (joinT L)) :=
  specText_l0 L hn hs ht hj L.length 0 (by omega)
theorem size_32 (x : X) (hd : x.depth ≤ 5) : x.size ≤ 31 := by
 have h1 := X.size_depth x
 have h2 : 2 ^ x.depth ≤ 2 ^ 5 := Nat.pow_le_pow_right (by omega) hd
 omega
end Go.Proofs.YtjamfkpgmkhbnaaDoor.PA

namespace Go.Proofs.YtjamfkpgmkhbnaaDoor.PA
open Go.RowKit Go.Proofs.YtjamfkpgmkhbnaaDoorW.PrintWords Go.Proofs.YtjamfkpgmkhbnaaDoor.Core
def Bytes (b : List Int) : Prop := b.length ≤ 2000 ∧ ∀ x ∈ b, 0 ≤ x ∧ x ≤ 255
theorem Bytes.rd {b : List Int} (h : Bytes b) (i : Int) (h0 : 0 ≤ i) (h1 : i < b.length) : 0 ≤ Go.Proofs.YtjamfkpgmkhbnaaDoorW.PrintWords.rd b i ∧ Go.Proofs.YtjamfkpgmkhbnaaDoorW.PrintWords.rd b i ≤ 255 := h.2 _ (rd_mem b i h0 h1)
end Go.Proofs.YtjamfkpgmkhbnaaDoor.PA

namespace Go.Proofs.YtjamfkpgmkhbnaaDoor.PA
open Go.RowKit Go.Proofs.YtjamfkpgmkhbnaaDoorW.PrintWords Go.Proofs.YtjamfkpgmkhbnaaDoorW.PrintMore Go.Proofs.YtjamfkpgmkhbnaaDoor.Core
theorem vx_parts {op n : Int} {a : List S29} (h : vx 5 op n a = true) : ∃ x : X, x.ok ∧ x.depth ≤ 5 ∧ op = (emb x).f0 ∧ n = (emb x).f1 ∧ a = (emb x).f2 := by
 obtain ⟨x, h1, h2, h3⟩ := vx_tree 5 op n a h
 exact ⟨x, h1, h2, by rw [h3], by rw [h3], by rw [h3]⟩
theorem vx_yes {x : X} (h : x.ok) (hd : x.depth ≤ 5) : vx 5 (emb x).f0 (emb x).f1 (emb x).f2 = true := by
 rw [vx_emb x 5 h]
 exact decide_eq_true hd
theorem Itoa_eq {n : Int} (h0 : 0 ≤ n) (h : n ≤ 99999) : strconv_Itoa_39.f n = some (ba (dec n)) := by
 unfold strconv_Itoa_39.f
 rw [if_pos h0, if_pos (by omega), dec_itoa h0]
 rfl
theorem impl_varText_eq {v : Int} (h : 0 ≤ v ∧ v < 4) : impl_varText.f v = some (ba (varB v)) := by
 unfold impl_varText.f
 rw [if_pos (by omega)]
 rfl
theorem ops12 {op : Int} (h : 1 ≤ op ∧ op ≤ 12) : op = 1 ∨ op = 2 ∨ op = 3 ∨ op = 4 ∨ op = 5 ∨ op = 6 ∨ op = 7 ∨ op = 8 ∨ op = 9 ∨ op = 10 ∨ op = 11 ∨ op = 12 := by omega
theorem impl_OpLevel_ev {op : Int} (h : 1 ≤ op ∧ op ≤ 12) : EvP (fun k => impl_OpLevel.f k op) (· = lev op) := by
  refine Ev.evp (Ev.of (impl_OpLevel.mono _) (k := 10) ?_)
  rcases ops12 h with h | h | h | h | h | h | h | h | h | h | h | h <;> subst h <;> first | rfl | kernel_rfl
theorem spec_OpLevel_eq {op : Int} (h : 1 ≤ op ∧ op ≤ 12) : spec_OpLevel.f op = some (lev op) := by
 rcases ops12 h with h | h | h | h | h | h | h | h | h | h | h | h <;> subst h <;> first | rfl | kernel_rfl
theorem impl_OpText_eq {op : Int} (h : 1 ≤ op ∧ op ≤ 12) : impl_OpText.f op = some (ba (opB op)) := by
 rcases ops12 h with h | h | h | h | h | h | h | h | h | h | h | h <;> subst h <;> first | rfl | kernel_rfl
theorem spec_OpText_eq {op : Int} (h : 1 ≤ op ∧ op ≤ 12) : spec_OpText.f op = some (ba (opB op)) := by
 rcases ops12 h with h | h | h | h | h | h | h | h | h | h | h | h <;> subst h <;> first | rfl | kernel_rfl
theorem lev_range {op : Int} (h : 1 ≤ op ∧ op ≤ 12) : 1 ≤ lev op ∧ lev op ≤ 8 := by
 rcases ops12 h with h | h | h | h | h | h | h | h | h | h | h | h <;> subst h <;> decide
theorem strOf1 {n : Int} (h0 : 0 ≤ n) (h : n < 10) : strOfNums (([(wrap64 (48 + n)) % 256] : List Int)) = ba [UInt8.ofNat (48 + n.toNat)] := by
 rw [w64 (by omega) (by omega), Int.emod_eq_of_lt (by omega) (by omega)]
 show ba [UInt8.ofNat (48 + n).toNat] = _
 rw [show (48 + n).toNat = 48 + n.toNat by omega]
theorem spec_l6Dec_ev : ∀ (m : Nat) (n : Int), n.toNat ≤ m → 0 ≤ n → n ≤ 1000000 → EvP (fun k => spec_l6Dec.f k n) (· = ba (dec n)) := by
  intro m
  induction m with
  | zero =>
    intro n hm h0 h1
    have : n = 0 := by omega
    subst this
    refine EvP.step (fun k => spec_l6Dec.f.eq_2 (k := k) ..) (EvP.no (by omega) (EvP.no (by omega) (EvP.yes (by omega) (EvP.ret ?_))))
    rw [strOf1 (by omega) (by omega)]
    unfold dec
    rw [Lib.decDigits, dif_pos (by decide)]
  | succ m ih =>
    intro n hm h0 h1
    refine EvP.step (fun k => spec_l6Dec.f.eq_2 (k := k) ..) (EvP.no (by omega) (EvP.no (by omega) (EvP.ite (fun h => EvP.ret ?_) (fun h => ?_))))
    · rw [strOf1 (by omega) (by omega)]
      unfold dec
      rw [Lib.decDigits, dif_pos (by omega)]
    · have hd : Int.tdiv n 10 = n / 10 := Int.tdiv_eq_ediv_of_nonneg h0
      have hr : Int.tmod n 10 = n % 10 := Int.tmod_eq_emod_of_nonneg h0
      rw [hd, hr, w64 (n := n / 10) (by omega) (by omega)]
      refine EvP.bindEq (ih (n / 10) (by omega) (by omega) (by omega)) (EvP.bind0 rfl ?_)
      rw [strOf1 (n := n % 10) (by omega) (by omega)]
      have hl : (dec (n / 10)).length ≤ 7 := decDigits_len 6 _ (by omega)
      refine EvP.yes (by rw [ba_size, ba_size]; show _ + 1 ≤ _; omega) (EvP.ret ?_)
      rw [ba_append]
      unfold dec
      rw [Lib.decDigits.eq_1 n.toNat, dif_neg (by omega), show (n / 10).toNat = n.toNat / 10 by omega, show (n % 10).toNat = n.toNat % 10 by omega]
theorem spec_l5Name_eq {v : Int} (h : 0 ≤ v ∧ v < 4) : spec_l5Name.f v = some (ba (varB v)) := by
 unfold spec_l5Name.f
 rw [w64 (by omega) (by omega), Int.emod_eq_of_lt (by omega) (by omega)]
 rfl
theorem spec_l5Wrap_eq (L : List (List UInt8)) (b : Bool) (hl : L.length ≤ 1000000) : spec_l5Wrap.f (L.map ba) b = some ((wrapT L b).map ba) := by
 unfold spec_l5Wrap.f wrapT
 cases b with
 | false => rw [if_neg Bool.false_ne_true, if_neg Bool.false_ne_true]
 | true =>
  rw [if_pos rfl, if_pos rfl]
  simp only [Option.bind_some]
  rw [if_pos (by rw [List.length_map]; show 1 + _ < _; omega)]
  rw [if_pos (by rw [List.length_append, List.length_map]; show 1 + _ < _; omega)]
  rw [List.map_cons, List.map_append]
  rfl
theorem spec_l5Level_eq {x : X} (h : x.ok) : spec_l5Level.f (emb x).f0 (emb x).f1 (emb x).f2 = some x.lev := by
 unfold spec_l5Level.f
 cases x with
 | num n => rfl
 | var v => rfl
 | bin op a b =>
  rw [if_neg (by simp [emb])]
  show ((spec_OpLevel.f op).bind fun t => some t) = _
  rw [spec_OpLevel_eq h.1]
  rfl
theorem impl_operandTokens_of {x : X} (h : x.ok) (hx : ∀ out : List ByteArray, out.length + 5 * x.size ≤ 1000000 → EvP (fun k => impl_exprTokens.f k (emb x).f0 (emb x).f1 (emb x).f2 out) (· = out ++ x.toks.map ba))
    (least : Int) (hl : least ≤ 9) (out : List ByteArray) (ho : out.length + 5 * x.size + 2 ≤ 1000000) : EvP (fun k => impl_operandTokens.f k (emb x).f0 (emb x).f1 (emb x).f2 least out) (· = out ++ (wrapT x.toks (decide (x.lev < least))).map ba) := by
  refine EvP.step (fun k => impl_operandTokens.f.eq_2 (k := k) ..) ?_
  have no : decide (x.lev < least) = false → EvP (fun k => impl_operandTokens.j0 k out true (emb x).f0 (emb x).f1 (emb x).f2) (· = out ++ (wrapT x.toks (decide (x.lev < least))).map ba) := by
    intro hd
    rw [hd]
    exact EvP.step (fun k => impl_operandTokens.j0.eq_2 (k := k) ..) (EvP.yes rfl (EvP.bindEq (hx out (by omega)) (EvP.ret rfl)))
  cases x with
  | num n => exact EvP.bind0 (impl_OpValid_eq 0) (EvP.no (by decide) (no (decide_eq_false (by show ¬ (9 : Int) < least; omega))))
  | var v => exact EvP.bind0 (impl_OpValid_eq 13) (EvP.no (by decide) (no (decide_eq_false (by show ¬ (9 : Int) < least; omega))))
  | bin op a b =>
    have h1 := h.1
    refine EvP.bind0 (impl_OpValid_eq op) (EvP.yes (by simp [h1.1, h1.2]) (EvP.bindEq (impl_OpLevel_ev h1) ?_))
    show EvP (fun n => impl_operandTokens.j0 n out (decide (lev op ≥ least)) (emb (X.bin op a b)).f0 (emb (X.bin op a b)).f1 (emb (X.bin op a b)).f2) _
    by_cases hc : lev op < least
    · rw [decide_eq_false (show ¬ lev op ≥ least by omega)]
      rw [show decide ((X.bin op a b).lev < least) = true from decide_eq_true hc]
      refine EvP.step (fun k => impl_operandTokens.j0.eq_2 (k := k) ..) (EvP.no Bool.false_ne_true (EvP.yes (by omega) (EvP.bindEq (hx (out ++ [(⟨#[40]⟩ : ByteArray)]) (by rw [List.length_append]; show _ + 1 + _ ≤ _; omega)) (EvP.yes ?_ (EvP.ret ?_)))))
      · have := toks_len (X.bin op a b)
        rw [List.length_append, List.length_append, List.length_map]
        show _ + 1 + _ < _
        omega
      · unfold wrapT
        rw [if_pos rfl, List.map_cons, List.map_append]
        simp
        exact ⟨rfl, rfl⟩
    · rw [decide_eq_true (show lev op ≥ least by omega)]
      exact no (decide_eq_false hc)
theorem impl_exprTokens_ev : ∀ x : X, x.ok → ∀ out : List ByteArray, out.length + 5 * x.size ≤ 1000000 → EvP (fun k => impl_exprTokens.f k (emb x).f0 (emb x).f1 (emb x).f2 out) (· = out ++ x.toks.map ba)
  | .num n, h, out, ho => by
    have h : 0 ≤ n ∧ n ≤ 99999 := h
    exact EvP.step (fun k => impl_exprTokens.f.eq_2 (k := k) ..) (EvP.yes rfl (EvP.bind0 (Itoa_eq h.1 h.2) (EvP.yes (by omega) (EvP.ret rfl))))
  | .var v, h, out, ho => by
    have h : 0 ≤ v ∧ v < 4 := h
    exact EvP.step (fun k => impl_exprTokens.f.eq_2 (k := k) ..) (EvP.no (by show ¬ (13 : Int) = 0; decide) (EvP.yes rfl (EvP.bind0 (impl_varText_eq h) (EvP.yes (by omega) (EvP.ret rfl)))))
  | .bin op a b, h, out, ho => by
    have h1 := h.1
    have hr := lev_range h1
    have hs : (X.bin op a b).size = a.size + b.size + 1 := rfl
    have ta := toks_len a
    have wa := wrapT_len a.toks (decide (a.lev < lev op))
    show EvP (fun k => impl_exprTokens.f k op 0 [emb a, emb b] out) _
    refine EvP.step (fun k => impl_exprTokens.f.eq_2 (k := k) ..) (EvP.no (by show ¬ op = 0; omega) (EvP.no (by show ¬ op = 13; omega) (EvP.bindEq (impl_OpLevel_ev h1) (EvP.yes (by show (0 : Int) < 2; omega) ?_))))
    show EvP (fun k => (impl_operandTokens.f k (emb a).f0 (emb a).f1 (emb a).f2 (lev op) out).bind _) _
    refine EvP.bindEq (impl_operandTokens_of h.2.1 (impl_exprTokens_ev a h.2.1) (lev op) (by omega) out (by omega)) (EvP.bind0 (impl_OpText_eq h1) (EvP.yes (by rw [List.length_append, List.length_map]; omega) (EvP.yes (by show (1 : Int) < 2; omega) ?_)))
    show EvP (fun k => (impl_operandTokens.f k (emb b).f0 (emb b).f1 (emb b).f2 (wrap64 (lev op + 1)) _).bind _) _
    rw [w64 (by omega) (by omega)]
    refine EvP.bindEq (impl_operandTokens_of h.2.2 (impl_exprTokens_ev b h.2.2) (lev op + 1) (by omega) _ (by rw [List.length_append, List.length_append, List.length_map]; show _ + _ + 1 + _ + 2 ≤ _; omega)) (EvP.ret ?_)
    rw [X.toks, List.map_append, List.map_cons, show decide (b.lev < lev op + 1) = decide (b.lev ≤ lev op) from decide_eq_decide.mpr (by omega)]
    simp
theorem spec_l5Tokens_ev : ∀ x : X, x.ok → x.size ≤ 1000 → EvP (fun k => spec_l5Tokens.f k (emb x).f0 (emb x).f1 (emb x).f2) (· = x.toks.map ba)
  | .num n, h, _ => by
    have h : 0 ≤ n ∧ n ≤ 99999 := h
    exact EvP.step (fun k => spec_l5Tokens.f.eq_2 (k := k) ..) (EvP.yes rfl (EvP.bindEq (spec_l6Dec_ev n.toNat n (by omega) h.1 (by omega)) (EvP.ret rfl)))
  | .var v, h, _ => by
    have h : 0 ≤ v ∧ v < 4 := h
    exact EvP.step (fun k => spec_l5Tokens.f.eq_2 (k := k) ..) (EvP.no (by show ¬ (13 : Int) = 0; decide) (EvP.yes rfl (EvP.bind0 (spec_l5Name_eq h) (EvP.ret rfl))))
  | .bin op a b, h, hz => by
    have h1 := h.1
    have hr := lev_range h1
    have hs : (X.bin op a b).size = a.size + b.size + 1 := rfl
    have ta := toks_len a
    have tb := toks_len b
    have wa := wrapT_len a.toks (decide (a.lev < lev op))
    have wb := wrapT_len b.toks (decide (b.lev ≤ lev op))
    show EvP (fun k => spec_l5Tokens.f k op 0 [emb a, emb b]) _
    refine EvP.step (fun k => spec_l5Tokens.f.eq_2 (k := k) ..) (EvP.no (by show ¬ op = 0; omega) (EvP.no (by show ¬ op = 13; omega) (EvP.bind0 (spec_OpLevel_eq h1) (EvP.yes (by show (0 : Int) < 2; omega) ?_))))
    show EvP (fun k => (spec_l5Tokens.f k (emb a).f0 (emb a).f1 (emb a).f2).bind _) _
    refine EvP.bindEq (spec_l5Tokens_ev a h.2.1 (by omega)) (EvP.bind0 (spec_l5Level_eq h.2.1) (EvP.bind0 (spec_l5Wrap_eq _ _ (by omega)) (EvP.bind0 (spec_OpText_eq h1) (EvP.yes (by rw [List.length_map]; omega) (EvP.bind0 rfl (EvP.yes (by show (1 : Int) < 2; omega) ?_))))))
    show EvP (fun k => (spec_l5Tokens.f k (emb b).f0 (emb b).f1 (emb b).f2).bind _) _
    refine EvP.bindEq (spec_l5Tokens_ev b h.2.2 (by omega)) (EvP.bind0 (spec_l5Level_eq h.2.2) (EvP.bind0 (spec_l5Wrap_eq _ _ (by omega)) ?_))
    refine EvP.yes (by rw [List.length_append, List.length_map, List.length_map]; show _ + 1 + _ < _; omega) ?_
    first
    | exact EvP.ret (by rw [X.toks, List.map_append, List.map_cons]; simp)
    | exact EvP.bind0 rfl (EvP.ret (by rw [X.toks, List.map_append, List.map_cons]; simp))
theorem opB_len {op : Int} (h : 1 ≤ op ∧ op ≤ 12) : (opB op).length ≤ 2 := by
 rcases ops12 h with h | h | h | h | h | h | h | h | h | h | h | h <;> subst h <;> decide
theorem wrapT_short {l : List (List UInt8)} {b : Bool} {m : Nat} (hm : 1 ≤ m) (h : ∀ t ∈ l, t.length ≤ m) : ∀ t ∈ wrapT l b, t.length ≤ m := by
 unfold wrapT
 split
 ·intro t ht
  rcases List.mem_cons.1 ht with h1 | h1
  ·subst h1
   exact hm
  ·rcases List.mem_append.1 h1 with h2 | h2
   ·exact h t h2
   ·rw [List.mem_singleton] at h2
    subst h2
    exact hm
 ·exact h
theorem toks_short : ∀ x : X, x.ok → ∀ t ∈ x.toks, t.length ≤ 5
 | .num n, h => by
  have h : 0 ≤ n ∧ n ≤ 99999 := h
  intro t ht
  rw [X.toks, List.mem_singleton] at ht
  subst ht
  exact dec_len h.1 h.2
 | .var v, h => by
  intro t ht
  rw [X.toks, List.mem_singleton] at ht
  subst ht
  exact (by decide : (1 : Nat) ≤ 5)
 | .bin op a b, h => by
  intro t ht
  rw [X.toks] at ht
  rcases List.mem_append.1 ht with h1 | h1
  ·exact wrapT_short (by decide) (toks_short a h.2.1) t h1
  ·rcases List.mem_cons.1 h1 with h2 | h2
   ·subst h2
    have := opB_len h.1
    omega
   ·exact wrapT_short (by decide) (toks_short b h.2.2) t h2
theorem joinT_len (m : Nat) : ∀ L : List (List UInt8), (∀ t ∈ L, t.length ≤ m) → (joinT L).length ≤ (m + 1) * L.length
 | [], _ => by simp [joinT]
 | [x], h => by
  have := h x (by simp)
  simp only [joinT, List.length_singleton]
  omega
 | x :: y :: r, h => by
  have h1 := h x (by simp)
  have h2 := joinT_len m (y :: r) (fun t ht => h t (by simp [ht]))
  rw [joinT_cons x (by simp), List.length_append, List.length_cons, List.length_cons (a := x), Nat.mul_add]
  omega
theorem toks_small (x : X) (hx : x.ok) (hd : x.depth ≤ 5) : x.size ≤ 31 ∧ x.toks.length ≤ 151 ∧ (joinT x.toks).length ≤ 906 := by
 have h1 := size_32 x hd
 have h2 := toks_len x
 have h3 := joinT_len 5 x.toks (toks_short x hx)
 omega
theorem impl_ExprText_yes (x : X) (hx : x.ok) (hd : x.depth ≤ 5) : EvP (fun k => impl_ExprText.f k (emb x).f0 (emb x).f1 (emb x).f2) (· = ba (joinT x.toks)) := by
  obtain ⟨h1, h2, h3⟩ := toks_small x hx hd
  unfold impl_ExprText.f
  refine EvP.bindEq (impl_ExprValid_ev _ _ _) (EvP.yes (vx_yes hx hd) (EvP.bindEq (impl_exprTokens_ev x hx [] (by simp only [List.length_nil]; omega)) ?_))
  rw [List.nil_append]
  exact EvP.bindEq (impl_TokensText_ev _ (by omega) (fun t ht => by have := toks_short x hx t ht; omega) (toks_tok x hx) (by omega)) (EvP.ret rfl)
theorem spec_ExprText_yes (x : X) (hx : x.ok) (hd : x.depth ≤ 5) : EvP (fun k => spec_ExprText.f k (emb x).f0 (emb x).f1 (emb x).f2) (· = ba (joinT x.toks)) := by
  obtain ⟨h1, h2, h3⟩ := toks_small x hx hd
  unfold spec_ExprText.f
  refine EvP.bindEq (spec_ExprValid_ev _ _ _) (EvP.yes (vx_yes hx hd) (EvP.bindEq (spec_l5Tokens_ev x hx (by omega)) ?_))
  exact EvP.bindEq (spec_TokensText_ev _ (by omega) (fun t ht => by have := toks_short x hx t ht; omega) (toks_tok x hx) (by omega)) (EvP.ret rfl)
theorem impl_ExprText_no {op n : Int} {l : List S29} (h : vx 5 op n l = false) : EvP (fun k => impl_ExprText.f k op n l) (· = (⟨#[]⟩ : ByteArray)) := by
  unfold impl_ExprText.f
  exact EvP.bindEq (impl_ExprValid_ev _ _ _) (EvP.no (by rw [h]; exact Bool.false_ne_true) (EvP.ret rfl))
theorem spec_ExprText_no {op n : Int} {l : List S29} (h : vx 5 op n l = false) : EvP (fun k => spec_ExprText.f k op n l) (· = (⟨#[]⟩ : ByteArray)) := by
  unfold spec_ExprText.f
  exact EvP.bindEq (spec_ExprValid_ev _ _ _) (EvP.no (by rw [h]; exact Bool.false_ne_true) (EvP.ret rfl))
end Go.Proofs.YtjamfkpgmkhbnaaDoor.PA

namespace Go.Proofs.YtjamfkpgmkhbnaaDoor.Pure
open Go.RowKit Go.Proofs.YtjamfkpgmkhbnaaDoor.PA Go.Proofs.YtjamfkpgmkhbnaaDoorW.PrintWords Go.Proofs.YtjamfkpgmkhbnaaDoorW.PrintLast Go.Proofs.YtjamfkpgmkhbnaaDoorW.PrintMore Go.Proofs.YtjamfkpgmkhbnaaDoor.Core
theorem texts (op n : Int) (l : List S29) : ∃ r, EvP (fun k => spec_ExprText.f k op n l) (· = r) ∧ EvP (fun k => impl_ExprText.f k op n l) (· = r) := by
  cases hv : vx 5 op n l with
  | false => exact ⟨_, spec_ExprText_no hv, impl_ExprText_no hv⟩
  | true =>
    obtain ⟨x, hx, hd, rfl, rfl, rfl⟩ := vx_parts hv
    exact ⟨_, spec_ExprText_yes x hx hd, impl_ExprText_yes x hx hd⟩
theorem FnExactExprText : laws_FnExactExprText.Pure := by
 intro a0 a1 l _ _ hl0
 refine EvP.ends (r := true) ?_
 unfold laws_FnExactExprText.f
 have hw : WF24 (⟨a0, a1, l⟩ : S24) := .mk _ (by assumption) (by assumption) hl0.1 hl0.2
 refine EvP.bindEq (szExpr_ev ⟨a0, a1, l⟩ hw 1048576 (by omega) (by omega)) (EvP.ite (fun _ => EvP.ret rfl) (fun h => ?_))
 have hc : cntE (⟨a0, a1, l⟩ : S24) ≤ 1048576 := by
  unfold lefts at h
  by_cases h2 : (cntE (⟨a0, a1, l⟩ : S24) : Int) ≤ 1048576
  ·omega
  ·rw [if_neg h2] at h
   omega
 have hto := toExpr_ev ⟨a0, a1, l⟩ hc
 obtain ⟨r, h1, h2⟩ := texts (trE (⟨a0, a1, l⟩ : S24)).f0 (trE (⟨a0, a1, l⟩ : S24)).f1 (trE (⟨a0, a1, l⟩ : S24)).f2
 have he := eqExpr_short _ (short_trE ⟨a0, a1, l⟩ hc)
 refine EvP.bindEq hto (EvP.bindEq h1 (EvP.bindEq hto (EvP.bindEq h2 (EvP.yes rfl ?_))))
 exact EvP.bindEq hto (EvP.bindEq he (EvP.yes rfl (EvP.ret rfl)))
end Go.Proofs.YtjamfkpgmkhbnaaDoor.Pure

namespace Go.Proofs.YtjamfkpgmkhbnaaDoor.LaidT
open Go.ChangeShapes Go.WideShapes Go.ChangeAt Go.RowKit Go.Proofs.YtjamfkpgmkhbnaaDoor
set_option linter.unusedVariables false
abbrev laidL : List (String × DataW Unit) := [("math/bits.deBruijn32tab", Rows.laid_math_bits_deBruijn32tab), ("math/bits.deBruijn64tab", Rows.laid_math_bits_deBruijn64tab), ("internal/strconv.uint64pow10", Rows.laid_internal_strconv_uint64pow10), ("loop.example/cothreads/impl.opTexts", Rows.laid_loop_example_cothreads_impl_opTexts)]
theorem cells_of_strs {H : Type} {enc : TypeId × Value → H} {P : Program} {w : World} {base : Nat} {sp : Nat → Bool} {held : Bool} {fuel : Nat} {t e : TypeId} {n : Nat} {cs : List Value} {bs : List (List UInt8)} {p : List MemPlace}
    (ht : P.underlying t = some (.array n e)) (he : P.underlying e = some .string) (hce : P.cellsOf e = 1) (hct : P.cellsOf t = n)
    (h : DataW.trod enc P w base sp held fuel t cs = some (.agg (bs.map fun b => .lit (.string b)), p)) : cs = bs.map fun b => Value.string ⟨b.toArray⟩ := by
  cases fuel with
  | zero => simp [DataW.trod] at h
  | succ fuel =>
    simp only [DataW.trod, ht, hce, hct, Nat.mul_one] at h
    split at h
    · rename_i hl
      obtain ⟨xs, hm, hx⟩ := Option.map_eq_some_iff.1 h
      have hxs : xs.map (·.1) = bs.map fun b => (DataW.lit (.string b) : DataW H) := by
        have := congrArg Prod.fst hx
        simpa using this
      have hxl : xs.length = n := by simpa using Lib.mapM_length hm
      have hzl : bs.length = n := by
        have := congrArg List.length hxs
        simp at this
        omega
      apply List.ext_getElem?
      intro i
      by_cases hi : i < n
      · obtain ⟨b, hb, hf⟩ := Lib.mapM_at hm i i (by simp [hi])
        obtain ⟨s, hc, rfl, _⟩ := DataW.trod_string he hf
        have h1 : cs[i]? = some (.string s) := by
          have := congrArg (·[0]?) hc
          simpa [List.getElem?_take, List.getElem?_drop] using this
        have h2 : (xs.map (·.1))[i]? = some (DataW.lit (.string s.data.toList) : DataW H) := by simp [hb]
        rw [hxs] at h2
        simp only [List.getElem?_map, Option.map_eq_some_iff, DataW.lit.injEq, Lit.string.injEq] at h2
        obtain ⟨z', hz', e'⟩ := h2
        rw [h1, List.getElem?_map, hz', e']
        rfl
      · rw [List.getElem?_eq_none (by omega), List.getElem?_eq_none (by simp; omega)]
    · cases h
theorem strs_of_head {P : Program} {W : World} {name : String} {bs : List (List UInt8)} {rest : List (String × DataW Unit)} {g : Nat} {t e : TypeId} {n : Nat}
    (hg : P.globalNamed name = some g) (hty : (P.globals[g]?).map (·.type) = some t) (ht : P.underlying t = some (.array n e)) (he : P.underlying e = some .string) (hce : P.cellsOf e = 1) (hct : P.cellsOf t = n)
    (h : laidMet P ((name, .agg (bs.map fun b => .lit (.string b))) :: rest) W) : W.var? P name = some (bs.map fun b => Value.string ⟨b.toArray⟩).toArray := by
  obtain ⟨ps, ⟨g', t', cs, fuel, p, q, hg', ht', hvar, hd, _, _⟩, _⟩ := h
  obtain rfl := Option.some.inj (hg.symm.trans hg')
  obtain rfl := Option.some.inj (hty.symm.trans ht')
  rw [hvar, ← cells_of_strs ht he hce hct hd]
theorem door_met (os : Os) (args : Array Value) : laidMetH Tryd.prog laidL ((World.doorLaid Tryd.prog 29 os).forCall (fun _ _ => 0) ⟨#[], args, []⟩).memory :=
 laidMetH_of_parts3 (fuel := 8) (laidMet_of_run' 8 (by kernel_rfl) (by kernel_rfl)) (by kernel_rfl) (by kernel_rfl)
theorem tabOf {W : World} (h0 : laidMetH Tryd.prog laidL W) : PA.Tab W := by
 have h : laidMet Tryd.prog laidL W := by rwa [MakeChecks.laidMetH_plain _ _ _ (by kernel_rfl)] at h0
 exact ⟨Lib.tabIs_of_head (g := 2) (t := 95) (e := 89) (n := 20) (by kernel_rfl) (by kernel_rfl) (by kernel_rfl) (by kernel_rfl) (by kernel_rfl) (by kernel_rfl) (laidMet.tail (laidMet.tail h)),
  (strs_of_head (g := 0) (t := 81) (e := 9) (n := 12) (bs := [[124], [94], [38], [61, 61], [60], [60, 60], [62, 62], [43], [45], [42], [47], [37]]) (by kernel_rfl) (by kernel_rfl) (by kernel_rfl) (by kernel_rfl) (by kernel_rfl) (by kernel_rfl) (laidMet.tail (laidMet.tail (laidMet.tail h)))).trans (by kernel_rfl)⟩
theorem var_below {P : Program} {w w' : World} {nm : String} {a : Array Value} (h : w.var? P nm = some a) (hb : Below w.heap.size w w') : w'.var? P nm = some a := PA.var_below h hb
theorem laidOut : laidOutB Tryd.prog = true := by kernel_rfl
theorem var_stays {H : Type} {enc : TypeId × Value → H} {W W' : World} {cs : Array Value} {d : DataW H} {p : List MemPlace} (hv : W.var? Tryd.prog "loop.example/cothreads/impl.opTexts" = some cs)
  (hd : ∃ fuel, DataW.trod enc Tryd.prog W 0 (fun _ => true) true fuel 81 cs.toList = some (d, p)) (hb : Below W.heap.size W W') :
  ∃ p', DataW.TrodVars enc Tryd.prog W' (fun b => decide (b < W.heap.size)) ["loop.example/cothreads/impl.opTexts"] [d] p' := by
 obtain ⟨fuel, hd⟩ := hd
 have hT : DataW.Trod enc Tryd.prog W 0 (fun _ => true) true 81 (.agg cs) d p := ⟨fuel, hd⟩
 obtain ⟨fuel', h2⟩ := Below.trod laidOut (by kernel_rfl) (of_decide_eq_true (by kernel_rfl)) hT hb (DataW.trod_lt fuel _ _ _ hd)
 exact ⟨_, trodVars_mk1 (g := 0) (t := 81) (by kernel_rfl) (by kernel_rfl) (PA.var_below hv hb) h2⟩
end Go.Proofs.YtjamfkpgmkhbnaaDoor.LaidT


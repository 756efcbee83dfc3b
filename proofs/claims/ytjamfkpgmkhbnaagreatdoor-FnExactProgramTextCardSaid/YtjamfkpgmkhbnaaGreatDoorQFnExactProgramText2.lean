/- Part 3. -/
import Derived.Test.YtjamfkpgmkhbnaaGreatDoorQFnExactProgramText1
set_option maxHeartbeats 8000000
set_option maxRecDepth 100000
namespace Go.Proofs.YtjamfkpgmkhbnaaGreatDoor.PA
open Go.RowKit Go.Proofs.YtjamfkpgmkhbnaaGreatDoorW.PrintWords Go.Proofs.YtjamfkpgmkhbnaaGreatDoorW.PrintLast Go.Proofs.YtjamfkpgmkhbnaaGreatDoorW.PrintMore
attribute [local go_sem] max2_int min2_int max_two min_two max_three min_three max_four min_four
set_option linter.unusedVariables false
set_option linter.unusedSimpArgs false
theorem impl_exprTokens.foot_T56_2 {w Wn : World} {S : Nat → Prop} {A : Option Addr} {n : Nat} {xs : List S56} (h : ∀ W_, Kept w W_ S → Kd.C k56 W_ A n xs) (hk : Kept w Wn S) (i : Int) (h0 : 0 ≤ i) (h1 : i < n) {ad : Addr} {A2 : Option Addr} {c2 : Nat} (e : A = some ad) (hc : Wn.cell? ⟨(ad.add (i.toNat * 3)).block, (ad.add (i.toNat * 3)).off + 2, none⟩ = some (.slice A2 (rd_T56 xs i).f2.length c2)) : ∀ W_, Kept w W_ S → k56.C W_ A2 (rd_T56 xs i).f2.length (rd_T56 xs i).f2 := by
 intro W_ hW
 subst e
 have hne : ¬ S ad.block := Kd.foot_neS h (by omega) (by decide)
 have hlt : ad.block < w.heap.size := Kd.foot_ltS h (by omega) (by decide)
 obtain ⟨ad', A2q, c2q, e', _, _, X2, _, I2⟩ := at_T56 (h W_ hW) i h0 h1
 injection e' with e'
 subst e'
 have hb : W_.heap[ad.block]? = Wn.heap[ad.block]? := (hW.2 _ hlt hne).trans (hk.2 _ hlt hne).symm
 have hcc : ∀ a : Addr, a.block = ad.block → W_.cell? a = Wn.cell? a := by
  intro a ha
  unfold World.cell?
  rw [ha, hb]
 have h2 := (hcc ⟨(ad.add (i.toNat * 3)).block, (ad.add (i.toNat * 3)).off + 2, none⟩ (by show (ad.add _).block = ad.block; unfold Addr.add; split <;> rfl)).trans hc
 rw [X2] at h2
 injection h2 with h2
 injection h2 with h2 h3 h4
 subst h2
 exact I2
theorem impl_exprTokens.step (k : Nat) (ih_impl_operandTokens : ∀ m, m < k → impl_operandTokens.CallsAt m) (ih_impl_exprTokens : ∀ m, m < k → impl_exprTokens.CallsAt m) : impl_exprTokens.CallsAt k := by
 intro a0_0 a0_1 A0_2 c0_2 l0_2 P1_ u23_ l1 r w0 w hB hr0_2 hc0_2 ho1 ht_ h
 cases k with
 | zero => exact absurd h (by simp [impl_exprTokens.f])
 | succ k =>
 simp only [impl_exprTokens.f] at h
 have hu56 := Tryz.underlying56
 have HR0_2 := am hr0_2
 have HC0_2 := am hc0_2
 clear hr0_2 hc0_2
 have HO1 := am (show Kd.R Kd.string 9 w w0.heap.size (fun k_ => (P1_ k_ ∨ w.heap.size ≤ k_)) u23_ l1 from Kd.R_mono ho1 (fun k_ hk => (.inl hk)))
 have HK := am (Kept.refl w (fun k_ => P1_ k_))
 have HW0 := am hB.size
 have HB := am hB
 clear hB
 have H : (if a0_0 = 0 then ((strconv_Itoa_20.f a0_1).bind fun t24 => (if l1.length < 8796093022208 then (some (l1 ++ [t24])) else (none))) else (if a0_0 = 13 then ((impl_varText.f a0_1).bind fun t35 => (if l1.length < 8796093022208 then (some (l1 ++ [t35])) else (none))) else ((impl_OpLevel.f k a0_0).bind fun t36 => (if 0 < (l0_2.length : Int) then ((impl_operandTokens.f k ((rd_T56 l0_2 0).f0) ((rd_T56 l0_2 0).f1) ((rd_T56 l0_2 0).f2) t36 l1).bind fun t39 => ((impl_OpText.f a0_0).bind fun t41 => (if t39.length < 8796093022208 then (if 1 < (l0_2.length : Int) then ((impl_operandTokens.f k ((rd_T56 l0_2 1).f0) ((rd_T56 l0_2 1).f1) ((rd_T56 l0_2 1).f2) (wrap64 (t36 + 1)) (t39 ++ [t41])).bind fun t42 => (some t42)) else (none)) else (none)))) else (none))))) = some r := h
 clear h
 have HH_ := am H
 clear H
 go_enter Tryz.func65, Tryz.ntmps65
 go_upto_region 1 with (first | ((with_reducible refine gate_dst (N := 2) rfl ?_); refine box_event rfl (N := 2) rfl (cs := #[.int .i64 a0_0, .int .i64 a0_1, .slice A0_2 l0_2.length c0_2]) (t := 56) rn_ ?_; intro gb43 hg w6 hbox hb; replace HO1 := am (Kd.R_below (aR_ HO1.out) hb); have BK43 := am (hbox); have GW43 := am ((by rw [hg]; exact (by first | exact HK.out.1 | exact (show Kept w _ (fun k_ => P1_ k_) from ab36_).1) : w.heap.size ≤ gb43)); replace HK := am (Kept.below (S := (fun k_ => P1_ k_)) ab36_ hb); have GE43 := am ((by rw [hg]; exact (below_size ab2_) : w0.heap.size ≤ gb43)); replace HB := am (below_step ab2_ hb); clear hb hbox hg; obtain ⟨hcz7_0, hcz7_1, hcz7_2, hfz7_0, hfz7_1, hfz7_2⟩ := bcf3_ BK43.out))
 have H := HH_.out
 clear HH_
 by_cases c3 : a0_0 = 0
 ·rw [if_pos c3] at H
  have c3b0 : (a0_0 == 0) = true := beq_iff_eq.mpr c3
  have c3b1 : (a0_0 != 0) = false := bne_eq_false_iff_eq.mpr c3
  clear c3
  obtain ⟨t24, A4, H⟩ := bsa H
  (try dsimp only at H)
  by_cases c5 : l1.length < 8796093022208
  ·rw [if_pos c5] at H
   have LMc5 := am c5
   clear c5
   obtain ⟨y44, hy_⟩ : ∃ y_ : List ByteArray, y_ = (l1 ++ [t24]) := ⟨_, rfl⟩
   replace H : (some y44) = some r := rx_
   have Ny44 := am hy_
   clear hy_
   obtain rfl := Option.some.inj H
   go_wp2_with (first | ((with_reducible refine gate_callee (f := 20) rfl ?_); refine gl_ 13 Tryz.func20 #[.int .i64 a0_1] ?_; (with_reducible refine (strconv_Itoa_20.calls a0_1 t24 _ ?sideT A4.out).mono ?_); (case sideT => first | exact ht_ | exact Tab.below ht_ HB.out | exact Tab.below ht_ ab15_); rintro e w8 ⟨rfl, hb⟩; refine ⟨_, rfl, ?_⟩; replace HO1 := am (Kd.R_below (aR_ HO1.out) hb); replace BK43 := am (bbl_ BK43.out hb); replace HK := am (Kept.below (S := (fun k_ => P1_ k_)) ab42_ hb); replace HB := am (below_step ab15_ hb); (try clear hb)) | ((with_reducible refine gate_builtin (b := .append) (xs := #[.tmp 10, .tmp 14]) rfl ?_); at_builtin; refine Kd.R_append Kd.string (w0 := w0) w0.heap.size rfl (.tmp 10) (.tmp 14) 29 9 (.string ⟨#[]⟩) 16 rfl Tryz.underlying29 info9 rfl (by decide) (by omega) u23_ l1 t24 [.string t24] (fun k_ => (P1_ k_ ∨ w.heap.size ≤ k_)) (fun _ => False) rfl rfl ?aP (fun _ hk => hk.elim) ?aF ?aO ?aB ?aS ?aL ?_; (case aP => exact rfl); (case aB => exact ab15_); (case aF => exact (fun k_ hk => (.inr (Nat.le_trans (by first | exact HK.out.1 | exact (show Kept w _ (fun k_ => P1_ k_) from ab42_).1) hk)))); (case aO => exact (aR_ HO1.out)); (case aS => exact (below_size ab15_)); (case aL => have := LMc5.out; omega); intro v45 w9 ho hb hg hat; rw [← Ny44.out] at ho; replace BK43 := am (blk_grown (g := gb43) (o := .cells #[.int .i64 a0_0, .int .i64 a0_1, .slice A0_2 l0_2.length c0_2] 56 (0, 0)) (aG_ BK43.out) hg (Kd.R_ne HO1.out BK43.out (by decide))); replace HB := am (hb); replace HK := am (Kept.of_grown (S := (fun k_ => P1_ k_)) hg ab42_ (fun k_ e_ => (HO1.out.1 k_ e_))); have HO46 := am (ho); clear HO1 ho hb hg hat))
   go_ret
   exact ⟨_, ab13_, aRw_ HO46.out, ab15_, ab42_⟩
  rw [if_neg c5] at H
  exact absurd H (by simp)
 rw [if_neg c3] at H
 have c3b0 : (a0_0 == 0) = false := beq_eq_false_iff_ne.mpr c3
 have c3b1 : (a0_0 != 0) = true := bne_iff_ne.mpr c3
 by_cases c10 : a0_0 = 13
 ·rw [if_pos c10] at H
  have c10b0 : (a0_0 == 13) = true := beq_iff_eq.mpr c10
  have c10b1 : (a0_0 != 13) = false := bne_eq_false_iff_eq.mpr c10
  clear c10
  obtain ⟨t35, A48, H⟩ := bsm H
  (try dsimp only at H)
  have A11 := am A48
  clear A48
  by_cases c12 : l1.length < 8796093022208
  ·rw [if_pos c12] at H
   have LMc12 := am c12
   clear c12
   obtain ⟨y49, hy_⟩ : ∃ y_ : List ByteArray, y_ = (l1 ++ [t35]) := ⟨_, rfl⟩
   replace H : (some y49) = some r := rx_
   have Ny49 := am hy_
   clear hy_
   obtain rfl := Option.some.inj H
   go_wp2_with (first | ((with_reducible refine gate_callee (f := 66) rfl ?_); refine gl_ 21 Tryz.func66 #[.int .i64 a0_1] ?_; (with_reducible refine (impl_varText.calls a0_1 t35 _ A11.out).mono ?_); rintro e w' ⟨rfl, ⟨nd, rfl⟩⟩; refine ⟨_, rfl, ?_⟩) | ((with_reducible refine gate_builtin (b := .append) (xs := #[.tmp 18, .tmp 22]) rfl ?_); at_builtin; refine Kd.R_append Kd.string (w0 := w0) w0.heap.size rfl (.tmp 18) (.tmp 22) 29 9 (.string ⟨#[]⟩) 16 rfl Tryz.underlying29 info9 rfl (by decide) (by omega) u23_ l1 t35 [.string t35] (fun k_ => (P1_ k_ ∨ w.heap.size ≤ k_)) (fun _ => False) rfl rfl ?aP (fun _ hk => hk.elim) ?aF ?aO ?aB ?aS ?aL ?_; (case aP => exact rfl); (case aB => exact ab15_); (case aF => exact (fun k_ hk => (.inr (Nat.le_trans (by first | exact HK.out.1 | exact (show Kept w _ (fun k_ => P1_ k_) from ab42_).1) hk)))); (case aO => exact (aR_ HO1.out)); (case aS => exact (below_size ab15_)); (case aL => have := LMc12.out; omega); intro v50 w15 ho hb hg hat; rw [← Ny49.out] at ho; replace BK43 := am (blk_grown (g := gb43) (o := .cells #[.int .i64 a0_0, .int .i64 a0_1, .slice A0_2 l0_2.length c0_2] 56 (0, 0)) (aG_ BK43.out) hg (Kd.R_ne HO1.out BK43.out (by decide))); replace HB := am (hb); replace HK := am (Kept.of_grown (S := (fun k_ => P1_ k_)) hg ab42_ (fun k_ e_ => (HO1.out.1 k_ e_))); have HO51 := am (ho); clear HO1 ho hb hg hat))
   go_ret
   exact ⟨_, ab13_, aRw_ HO51.out, ab15_, ab42_⟩
  rw [if_neg c12] at H
  exact absurd H (by simp)
 rw [if_neg c10] at H
 have c10b0 : (a0_0 == 13) = false := beq_eq_false_iff_ne.mpr c10
 have c10b1 : (a0_0 != 13) = true := bne_iff_ne.mpr c10
 obtain ⟨t36, A52, H⟩ := bsm H
 (try dsimp only at H)
 have A16 := am A52
 clear A52
 by_cases c17 : 0 < (l0_2.length : Int)
 ·rw [if_pos c17] at H
  have c17b0 : decide (0 < (l0_2.length : Int)) = true := decide_eq_true c17
  have c17b1 : decide (0 < l0_2.length) = true := decide_eq_true (by omega)
  clear c17
  obtain ⟨t39, A53, H⟩ := bsm H
  (try dsimp only at H)
  have A18 := am A53
  clear A53
  obtain ⟨t41, A54, H⟩ := bsm H
  (try dsimp only at H)
  have A19 := am A54
  clear A54
  by_cases c20 : t39.length < 8796093022208
  ·rw [if_pos c20] at H
   have LMc20 := am c20
   clear c20
   obtain ⟨y55, hy_⟩ : ∃ y_ : List ByteArray, y_ = (t39 ++ [t41]) := ⟨_, rfl⟩
   replace H : (if 1 < (l0_2.length : Int) then ((impl_operandTokens.f k ((rd_T56 l0_2 1).f0) ((rd_T56 l0_2 1).f1) ((rd_T56 l0_2 1).f2) (wrap64 (t36 + 1)) y55).bind fun t42 => (some t42)) else (none)) = some r := rx_
   have Ny55 := am hy_
   clear hy_
   by_cases c21 : 1 < (l0_2.length : Int)
   ·rw [if_pos c21] at H
    have c21b0 : decide (1 < (l0_2.length : Int)) = true := decide_eq_true c21
    have c21b1 : decide (1 < l0_2.length) = true := decide_eq_true (by omega)
    clear c21
    obtain ⟨t42, A57, H⟩ := bsm H
    (try dsimp only at H)
    have A22 := am A57
    clear A57
    obtain rfl := Option.some.inj H
    go_wp2_with (first | ((with_reducible refine gate_callee (f := 88) rfl ?_); refine gl_ 26 Tryz.func88 #[.int .i64 a0_0] ?_; (with_reducible refine (impl_OpLevel.calls k a0_0 t36 _ A16.out).mono ?_); rintro e w' ⟨rfl, ⟨nd, rfl⟩⟩; refine ⟨_, rfl, ?_⟩; have p58 : 0 ≤ (0 : Int) := (by omega); have q58 : 0 < (l0_2.length : Int) := of_decide_eq_true asm_; obtain ⟨ad58, A58_2, c58_2, e58, hx58_0, hx58_1, hx58_2, hl58_2, hi58_2⟩ := at_T56 (Kd.C_kept_now HR0_2.out HK.out) 0 p58 q58; have HF594_2 := am (impl_exprTokens.foot_T56_2 HR0_2.out HK.out 0 p58 q58 e58 hx58_2); cases e58; have qi58 : (0 < l0_2.length) = True := eq_true (by omega); (try rw [show ((0 : Int)).toNat = 0 from rfl] at hx58_0); (try rw [show 0 * 3 = 0 from rfl] at hx58_0); (try rw [Addr.add_zero'] at hx58_0); (try rw [show ((0 : Int)).toNat = 0 from rfl] at hx58_1); (try rw [show 0 * 3 = 0 from rfl] at hx58_1); (try rw [Addr.add_zero'] at hx58_1); (try rw [show ((0 : Int)).toNat = 0 from rfl] at hx58_2); (try rw [show 0 * 3 = 0 from rfl] at hx58_2); (try rw [Addr.add_zero'] at hx58_2); have HR58_2 := am hi58_2; have HC58_2 := am hl58_2; clear hi58_2 hl58_2; replace p58 := eq_true p58; replace q58 := eq_true q58; obtain ⟨Ao25, co25, eo25⟩ := Kd.R_slice HO1.out; subst eo25) | ((with_reducible refine gate_callee (f := 89) rfl ?_); refine gl_ 33 Tryz.func89 #[.agg #[.int .i64 ((rd_T56 l0_2 0).f0), .int .i64 ((rd_T56 l0_2 0).f1), .slice A58_2 ((rd_T56 l0_2 0).f2).length c58_2], .int .i64 t36, .slice Ao25 l1.length co25] ?_; (with_reducible refine (ih_impl_operandTokens k (by omega) ((rd_T56 l0_2 0).f0) ((rd_T56 l0_2 0).f1) _ _ ((rd_T56 l0_2 0).f2) t36 (fun k_ => some k_ = (.slice Ao25 l1.length co25 : Value).ownBlock) (.slice Ao25 l1.length co25) l1 t39 w0 _ ?side1 ?side2 HC58_2.out ?side4 ?sideT A18.out).mono ?_); (case sideT => first | exact ht_ | exact Tab.below ht_ HB.out | exact Tab.below ht_ ab15_); (case side1 => exact ab15_); (case side2 => exact Kd.C_kept_call HF594_2.out ab42_ (fun k_ hs_ => (fun e_ => (HO1.out.1 k_ e_.symm)) hs_)); (case side4 => exact Kd.R_tight rfl HO1.out); rintro e w26 ⟨v59, rfl, ho0, hb, hkp⟩; refine ⟨_, rfl, ?_⟩; replace BK43 := am (blk_kept (aG_ BK43.out) hkp (fun hs_ => (fun e_ => (Kd.R_ne HO1.out BK43.out (by decide)) e_) hs_)); have HO60 := am (Kd.R_mono (ok' := fun k_ => (P1_ k_ ∨ w.heap.size ≤ k_)) ho0 (fun k_ hk_ => Or.elim hk_ (fun hs_ => (HO1.out.1 k_ (hs_).symm)) (fun hn_ => (.inr (Nat.le_trans (by first | exact HK.out.1 | exact (show Kept w _ (fun k_ => P1_ k_) from ab42_).1) hn_))))); replace HK := am (Kept.then_ (S := (fun k_ => P1_ k_)) ab42_ hkp (fun k_ hs_ => (fun e_ => (HO1.out.1 k_ e_.symm)) hs_)); replace HB := am (hb); clear HO1; (try clear hb); (try clear hkp); (try clear ho0); obtain ⟨hcz27_0, hcz27_1, hcz27_2, hfz27_0, hfz27_1, hfz27_2⟩ := bcf3_ BK43.out) | ((with_reducible refine gate_callee (f := 90) rfl ?_); refine gl_ 37 Tryz.func90 #[.int .i64 a0_0] ?_; (with_reducible refine (impl_OpText.calls a0_0 t41 _ ?sideT A19.out).mono ?_); (case sideT => first | exact ht_ | exact Tab.below ht_ HB.out | exact Tab.below ht_ ab15_); rintro e w28 ⟨rfl, hb⟩; refine ⟨_, rfl, ?_⟩; replace HO60 := am (Kd.R_below (aR_ HO60.out) hb); replace BK43 := am (bbl_ BK43.out hb); replace HK := am (Kept.below (S := (fun k_ => P1_ k_)) ab42_ hb); replace HB := am (below_step ab15_ hb); (try clear hb)) | ((with_reducible refine gate_builtin (b := .append) (xs := #[.tmp 34, .tmp 38]) rfl ?_); at_builtin; refine Kd.R_append Kd.string (w0 := w0) w0.heap.size rfl (.tmp 34) (.tmp 38) 29 9 (.string ⟨#[]⟩) 16 rfl Tryz.underlying29 info9 rfl (by decide) (by omega) v59 t39 t41 [.string t41] (fun k_ => (P1_ k_ ∨ w.heap.size ≤ k_)) (fun _ => False) rfl rfl ?aP (fun _ hk => hk.elim) ?aF ?aO ?aB ?aS ?aL ?_; (case aP => exact rfl); (case aB => exact ab15_); (case aF => exact (fun k_ hk => (.inr (Nat.le_trans (by first | exact HK.out.1 | exact (show Kept w _ (fun k_ => P1_ k_) from ab42_).1) hk)))); (case aO => exact (aR_ HO60.out)); (case aS => exact (below_size ab15_)); (case aL => have := LMc20.out; omega); intro v61 w29 ho hb hg hat; rw [← Ny55.out] at ho; replace BK43 := am (blk_grown (g := gb43) (o := .cells #[.int .i64 a0_0, .int .i64 a0_1, .slice (some ad58) l0_2.length c0_2] 56 (0, 0)) (aG_ BK43.out) hg (Kd.R_ne HO60.out BK43.out (by decide))); replace HB := am (hb); replace HK := am (Kept.of_grown (S := (fun k_ => P1_ k_)) hg ab42_ (fun k_ e_ => (HO60.out.1 k_ e_))); have HO62 := am (ho); clear HO60 ho hb hg hat; obtain ⟨hcz30_0, hcz30_1, hcz30_2, hfz30_0, hfz30_1, hfz30_2⟩ := bcf3_ BK43.out; have p63 : 0 ≤ (1 : Int) := (by omega); have q63 : 1 < (l0_2.length : Int) := of_decide_eq_true asm_; obtain ⟨ad63, A63_2, c63_2, e63, hx63_0, hx63_1, hx63_2, hl63_2, hi63_2⟩ := at_T56 (Kd.C_kept_now HR0_2.out HK.out) 1 p63 q63; have HF602_2 := am (impl_exprTokens.foot_T56_2 HR0_2.out HK.out 1 p63 q63 e63 hx63_2); obtain rfl : ad58 = ad63 := (by injection e63); (try simp only [show (1 : Int).toNat = 1 from rfl, Nat.reduceMul, Nat.reduceEqDiff, Go.Addr.add, ↓reduceIte] at hx63_0); (try simp only [show (1 : Int).toNat = 1 from rfl, Nat.reduceMul, Nat.reduceEqDiff, Go.Addr.add, ↓reduceIte] at hx63_1); (try simp only [show (1 : Int).toNat = 1 from rfl, Nat.reduceMul, Nat.reduceEqDiff, Go.Addr.add, ↓reduceIte] at hx63_2); have qi63 : (1 < l0_2.length) = True := eq_true (by omega); (try rw [show ((1 : Int)).toNat = 1 from rfl] at hx63_0); (try rw [show 1 * 3 = 3 from rfl] at hx63_0); (try rw [show ((1 : Int)).toNat = 1 from rfl] at hx63_1); (try rw [show 1 * 3 = 3 from rfl] at hx63_1); (try rw [show ((1 : Int)).toNat = 1 from rfl] at hx63_2); (try rw [show 1 * 3 = 3 from rfl] at hx63_2); have HR63_2 := am hi63_2; have HC63_2 := am hl63_2; clear hi63_2 hl63_2; replace p63 := eq_true p63; replace q63 := eq_true q63; obtain ⟨Ao31, co31, eo31⟩ := Kd.R_slice HO62.out; subst eo31) | ((with_reducible refine gate_callee (f := 89) rfl ?_); refine gl_ 47 Tryz.func89 #[.agg #[.int .i64 ((rd_T56 l0_2 1).f0), .int .i64 ((rd_T56 l0_2 1).f1), .slice A63_2 ((rd_T56 l0_2 1).f2).length c63_2], .int .i64 (wrap64 (t36 + 1)), .slice Ao31 y55.length co31] ?_; (with_reducible refine (ih_impl_operandTokens k (by omega) ((rd_T56 l0_2 1).f0) ((rd_T56 l0_2 1).f1) _ _ ((rd_T56 l0_2 1).f2) (wrap64 (t36 + 1)) (fun k_ => some k_ = (.slice Ao31 y55.length co31 : Value).ownBlock) (.slice Ao31 y55.length co31) y55 t42 w0 _ ?side1 ?side2 HC63_2.out ?side4 ?sideT A22.out).mono ?_); (case sideT => first | exact ht_ | exact Tab.below ht_ HB.out | exact Tab.below ht_ ab15_); (case side1 => exact ab15_); (case side2 => exact Kd.C_kept_call HF602_2.out ab42_ (fun k_ hs_ => (fun e_ => (HO62.out.1 k_ e_.symm)) hs_)); (case side4 => exact Kd.R_tight rfl HO62.out); rintro e w32 ⟨v67, rfl, ho0, hb, hkp⟩; refine ⟨_, rfl, ?_⟩; replace BK43 := am (blk_kept (aG_ BK43.out) hkp (fun hs_ => (fun e_ => (Kd.R_ne HO62.out BK43.out (by decide)) e_) hs_)); have HO68 := am (Kd.R_mono (ok' := fun k_ => (P1_ k_ ∨ w.heap.size ≤ k_)) ho0 (fun k_ hk_ => Or.elim hk_ (fun hs_ => (HO62.out.1 k_ (hs_).symm)) (fun hn_ => (.inr (Nat.le_trans (by first | exact HK.out.1 | exact (show Kept w _ (fun k_ => P1_ k_) from ab42_).1) hn_))))); replace HK := am (Kept.then_ (S := (fun k_ => P1_ k_)) ab42_ hkp (fun k_ hs_ => (fun e_ => (HO62.out.1 k_ e_.symm)) hs_)); replace HB := am (hb); clear HO62; (try clear hb); (try clear hkp); (try clear ho0)))
    go_ret
    exact ⟨_, ab13_, aRw_ HO68.out, ab15_, ab42_⟩
   rw [if_neg c21] at H
   exact absurd H (by simp)
  rw [if_neg c20] at H
  exact absurd H (by simp)
 rw [if_neg c17] at H
 exact absurd H (by simp)
theorem impl_operandTokens.calls_all (k : Nat) : impl_operandTokens.CallsAt k ∧ impl_exprTokens.CallsAt k := by
 induction k using Nat.strongRecOn with
 | _ k ih => exact ⟨impl_operandTokens.step k (ih_impl_operandTokens := fun m hm => (ih m hm).1) (ih_impl_exprTokens := fun m hm => (ih m hm).2), impl_exprTokens.step k (ih_impl_operandTokens := fun m hm => (ih m hm).1) (ih_impl_exprTokens := fun m hm => (ih m hm).2)⟩
theorem impl_operandTokens.calls (k : Nat) : impl_operandTokens.CallsAt k := (impl_operandTokens.calls_all k).1
theorem impl_exprTokens.calls (k : Nat) : impl_exprTokens.CallsAt k := (impl_operandTokens.calls_all k).2
def impl_stmtTokens.T3 : Bool × List (List Nat × List Nat) := (true, [([], []), ([0], [0]), ([], []), ([], []), ([3], [3]), ([4], [4]), ([5], [5]), ([2, 6, 5], [2, 6]), ([1, 7, 7], [1, 7]), ([8, 8, 0, 1, 2, 3, 4, 5, 6, 7, 8], [2, 8])])
def impl_stmtTokens.B3 : List Nat := [0, 1, 0, 0, 8, 24, 56, 124, 255, 511]
theorem impl_stmtTokens.tab3 : rtab .any (opsOf Tryz.f42 3) = impl_stmtTokens.T3 := by kernel_rfl
theorem impl_stmtTokens.bits3 : waitsOk impl_stmtTokens.T3.2 impl_stmtTokens.B3 = true := by kernel_rfl
def impl_stmtTokens.T5 : Bool × List (List Nat × List Nat) := (true, [([], []), ([0], [0]), ([], []), ([2], [2]), ([], []), ([], []), ([4, 5], [4, 5]), ([3, 6, 6], [3, 6]), ([1, 7, 7], [1, 7]), ([8, 8, 0, 1, 2, 3, 4, 5, 6, 7, 8], [4, 8])])
def impl_stmtTokens.B5 : List Nat := [0, 1, 0, 4, 0, 0, 48, 124, 255, 511]
theorem impl_stmtTokens.tab5 : rtab .any (opsOf Tryz.f42 5) = impl_stmtTokens.T5 := by kernel_rfl
theorem impl_stmtTokens.bits5 : waitsOk impl_stmtTokens.T5.2 impl_stmtTokens.B5 = true := by kernel_rfl
def impl_stmtTokens.T10 : Bool × List (List Nat × List Nat) := (true, [([], []), ([0], [0]), ([], []), ([2], [2]), ([], []), ([], []), ([4, 5], [4, 5]), ([3, 6, 6], [3, 6]), ([1, 7, 7], [1, 7]), ([8, 8, 0, 1, 2, 3, 4, 5, 6, 7, 8], [8])])
def impl_stmtTokens.B10 : List Nat := [0, 1, 0, 4, 0, 0, 48, 124, 255, 511]
theorem impl_stmtTokens.tab10 : rtab .any (opsOf Tryz.f42 10) = impl_stmtTokens.T10 := by kernel_rfl
theorem impl_stmtTokens.bits10 : waitsOk impl_stmtTokens.T10.2 impl_stmtTokens.B10 = true := by kernel_rfl
def impl_stmtTokens.T12 : Bool × List (List Nat × List Nat) := (true, [([], []), ([0], [0]), ([], []), ([], []), ([3], [3]), ([4], [4]), ([5], [5]), ([2, 6, 5], [2, 6]), ([1, 7, 7], [1, 7]), ([8, 8, 0, 1, 2, 3, 4, 5, 6, 7, 8], [2, 8])])
def impl_stmtTokens.B12 : List Nat := [0, 1, 0, 0, 8, 24, 56, 124, 255, 511]
theorem impl_stmtTokens.tab12 : rtab .any (opsOf Tryz.f42 12) = impl_stmtTokens.T12 := by kernel_rfl
theorem impl_stmtTokens.bits12 : waitsOk impl_stmtTokens.T12.2 impl_stmtTokens.B12 = true := by kernel_rfl
def impl_stmtTokens.T14 : Bool × List (List Nat × List Nat) := (true, [([], []), ([], []), ([1], [1]), ([2], [2]), ([], []), ([4], [4]), ([5, 3], [5]), ([3, 6], [3, 6]), ([0, 7, 6], [0, 7]), ([8, 8, 0, 1, 2, 3, 4, 5, 6, 7, 8], [0, 8])])
def impl_stmtTokens.B14 : List Nat := [0, 0, 2, 6, 0, 16, 62, 126, 255, 511]
theorem impl_stmtTokens.tab14 : rtab .any (opsOf Tryz.f42 14) = impl_stmtTokens.T14 := by kernel_rfl
theorem impl_stmtTokens.bits14 : waitsOk impl_stmtTokens.T14.2 impl_stmtTokens.B14 = true := by kernel_rfl
theorem impl_stmtTokens.step (k : Nat) (ih_impl_stmtTokens : ∀ m, m < k → impl_stmtTokens.CallsAt m) (ih_impl_blockTokens : ∀ m, m < k → impl_blockTokens.CallsAt m) : impl_stmtTokens.CallsAt k := by
 intro a0_0 a0_1 a0_2 a0_3 a0_4 A0_5 c0_5 l0_5 A0_6 c0_6 l0_6 A0_7 c0_7 l0_7 P1_ u39_ l1 r w0 w hB hr0_5 hc0_5 hr0_6 hc0_6 hr0_7 hc0_7 ho1 ht_ h
 cases k with
 | zero => exact absurd h (by simp [impl_stmtTokens.f])
 | succ k =>
 simp only [impl_stmtTokens.f] at h
 have hu58 := Tryz.underlying58
 have hu56 := Tryz.underlying56
 have HR0_5 := am hr0_5
 have HC0_5 := am hc0_5
 clear hr0_5 hc0_5
 have HR0_6 := am hr0_6
 have HC0_6 := am hc0_6
 clear hr0_6 hc0_6
 have HR0_7 := am hr0_7
 have HC0_7 := am hc0_7
 clear hr0_7 hc0_7
 have HO1 := am (show Kd.R Kd.string 9 w w0.heap.size (fun k_ => (P1_ k_ ∨ w.heap.size ≤ k_)) u39_ l1 from Kd.R_mono ho1 (fun k_ hk => (.inl hk)))
 have HK := am (Kept.refl w (fun k_ => P1_ k_))
 have HW0 := am hB.size
 have HB := am hB
 clear hB
 have H : (if a0_0 = 1 then ((impl_varText.f a0_1).bind fun t51 => ((some (([t51, (⟨#[61]⟩ : ByteArray)] : List ByteArray) : List ByteArray)).bind fun y52 => (if l1.length + y52.length < 8796093022208 then ((impl_exprTokens.f k a0_3 a0_4 l0_5 (l1 ++ y52)).bind fun t92 => (if t92.length < 8796093022208 then (some (t92 ++ [(⟨#[59]⟩ : ByteArray)])) else (none))) else (none)))) else (if a0_0 = 2 then (if l1.length < 8796093022208 then ((impl_exprTokens.f k a0_3 a0_4 l0_5 (l1 ++ [(⟨#[105, 102]⟩ : ByteArray)])).bind fun t93 => ((impl_blockTokens.f k l0_6 t93).bind fun t109 => (if (l0_7.length : Int) > 0 then (if t109.length < 8796093022208 then ((impl_blockTokens.f k l0_7 (t109 ++ [(⟨#[101, 108, 115, 101]⟩ : ByteArray)])).bind fun t111 => (some t111)) else (none)) else (some t109)))) else (none)) else (if a0_0 = 3 then (if l1.length < 8796093022208 then ((impl_exprTokens.f k a0_3 a0_4 l0_5 (l1 ++ [(⟨#[119, 104, 105, 108, 101]⟩ : ByteArray)])).bind fun t113 => ((impl_blockTokens.f k l0_6 t113).bind fun t117 => (some t117))) else (none)) else (if a0_0 = 4 then ((strconv_Itoa_20.f a0_2).bind fun t120 => ((some (([(⟨#[115, 101, 110, 100]⟩ : ByteArray), t120] : List ByteArray) : List ByteArray)).bind fun y122 => (if l1.length + y122.length < 8796093022208 then ((impl_exprTokens.f k a0_3 a0_4 l0_5 (l1 ++ y122)).bind fun t123 => (if t123.length < 8796093022208 then (some (t123 ++ [(⟨#[59]⟩ : ByteArray)])) else (none))) else (none)))) else (if a0_0 = 5 then ((strconv_Itoa_20.f a0_2).bind fun t125 => ((impl_varText.f a0_1).bind fun t127 => ((some (([(⟨#[114, 101, 99, 118]⟩ : ByteArray), t125, t127] : List ByteArray) : List ByteArray)).bind fun y128 => (if l1.length + y128.length < 8796093022208 then ((some (l1 ++ y128 : List ByteArray)).bind fun y129 => (if y129.length < 8796093022208 then (some (y129 ++ [(⟨#[59]⟩ : ByteArray)])) else (none))) else (none))))) else (if a0_0 = 6 then (if l1.length < 8796093022208 then ((some (l1 ++ [(⟨#[121, 105, 101, 108, 100]⟩ : ByteArray)] : List ByteArray)).bind fun y130 => (if y130.length < 8796093022208 then (some (y130 ++ [(⟨#[59]⟩ : ByteArray)])) else (none))) else (none)) else (if a0_0 = 7 then (if l1.length < 8796093022208 then ((impl_exprTokens.f k a0_3 a0_4 l0_5 (l1 ++ [(⟨#[112, 114, 105, 110, 116]⟩ : ByteArray)])).bind fun t131 => (if t131.length < 8796093022208 then (some (t131 ++ [(⟨#[59]⟩ : ByteArray)])) else (none))) else (none)) else (if l1.length < 8796093022208 then (some (l1 ++ [(⟨#[59]⟩ : ByteArray)])) else (none))))))))) = some r := h
 clear h
 have HH_ := am H
 clear H
 go_enter Tryz.func42, Tryz.ntmps42
 go_upto_region 1 with (first | ((with_reducible refine gate_dst (N := 2) rfl ?_); refine box_event rfl (N := 2) rfl (cs := #[.int .i64 a0_0, .int .i64 a0_1, .int .i64 a0_2, .int .i64 a0_3, .int .i64 a0_4, .slice A0_5 l0_5.length c0_5, .slice A0_6 l0_6.length c0_6, .slice A0_7 l0_7.length c0_7]) (t := 58) rn_ ?_; intro gb132 hg w8 hbox hb; replace HO1 := am (Kd.R_below (aR_ HO1.out) hb); have BK132 := am (hbox); have GW132 := am ((by rw [hg]; exact (by first | exact HK.out.1 | exact (show Kept w _ (fun k_ => P1_ k_) from ab36_).1) : w.heap.size ≤ gb132)); replace HK := am (Kept.below (S := (fun k_ => P1_ k_)) ab36_ hb); have GE132 := am ((by rw [hg]; exact (below_size ab2_) : w0.heap.size ≤ gb132)); replace HB := am (below_step ab2_ hb); clear hb hbox hg; obtain ⟨hcz9_0, hcz9_1, hcz9_2, hcz9_3, hcz9_4, hcz9_5, hcz9_6, hcz9_7, hfz9_0, hfz9_1, hfz9_2, hfz9_3, hfz9_4, hfz9_5, hfz9_6, hfz9_7⟩ := bcf8_ BK132.out))
 have H := HH_.out
 clear HH_
 by_cases c3 : a0_0 = 1
 ·rw [if_pos c3] at H
  have c3b0 : (a0_0 == 1) = true := beq_iff_eq.mpr c3
  have c3b1 : (a0_0 != 1) = false := bne_eq_false_iff_eq.mpr c3
  clear c3
  obtain ⟨t51, A4, H⟩ := bsa H
  (try dsimp only at H)
  obtain ⟨y52, hy_⟩ : ∃ y_ : List ByteArray, y_ = (([t51, (⟨#[61]⟩ : ByteArray)] : List ByteArray)) := ⟨_, rfl⟩
  replace H : (if l1.length + y52.length < 8796093022208 then ((impl_exprTokens.f k a0_3 a0_4 l0_5 (l1 ++ y52)).bind fun t92 => (if t92.length < 8796093022208 then (some (t92 ++ [(⟨#[59]⟩ : ByteArray)])) else (none))) else (none)) = some r := rx_
  have Ny52 := am hy_
  clear hy_
  by_cases c5 : l1.length + y52.length < 8796093022208
  ·rw [if_pos c5] at H
   have LMc5 := am c5
   clear c5
   obtain ⟨y133, hy_⟩ : ∃ y_ : List ByteArray, y_ = (l1 ++ y52) := ⟨_, rfl⟩
   replace H : ((impl_exprTokens.f k a0_3 a0_4 l0_5 y133).bind fun t92 => (if t92.length < 8796093022208 then (some (t92 ++ [(⟨#[59]⟩ : ByteArray)])) else (none))) = some r := rx_
   have Ny133 := am hy_
   clear hy_
   obtain ⟨t92, A6, H⟩ := bsa H
   (try dsimp only at H)
   by_cases c7 : t92.length < 8796093022208
   ·rw [if_pos c7] at H
    have LMc7 := am c7
    clear c7
    obtain ⟨y134, hy_⟩ : ∃ y_ : List ByteArray, y_ = (t92 ++ [(⟨#[59]⟩ : ByteArray)]) := ⟨_, rfl⟩
    replace H : (some y134) = some r := rx_
    have Ny134 := am hy_
    clear hy_
    obtain rfl := Option.some.inj H
    try go_wp2
    replace HO1 := am (Kd.R_drew HO1.out)
    replace BK132 := am (blk_drew BK132.out)
    replace HK := am (Kept.drew HK.out)
    replace HB := am (below_drew1 HB.out)
    refine start_ (n := 10) (S := fun w' => w'.cell? ⟨gb132, 0, none⟩ = some (.int .i64 a0_0) ∧ w'.cell? ⟨gb132, 1, none⟩ = some (.int .i64 a0_1) ∧ w'.cell? ⟨gb132, 2, none⟩ = some (.int .i64 a0_2) ∧ w'.cell? ⟨gb132, 3, none⟩ = some (.int .i64 a0_3) ∧ w'.cell? ⟨gb132, 4, none⟩ = some (.int .i64 a0_4) ∧ w'.cell? ⟨gb132, 5, none⟩ = some (.slice A0_5 l0_5.length c0_5) ∧ w'.cell? ⟨gb132, 6, none⟩ = some (.slice A0_6 l0_6.length c0_6) ∧ w'.cell? ⟨gb132, 7, none⟩ = some (.slice A0_7 l0_7.length c0_7)) (ds := []) (bz 10 0) (by kernel_rfl) rfl rfl ⟨(blk_cell BK132.out 0).trans rfl, (blk_cell BK132.out 1).trans rfl, (blk_cell BK132.out 2).trans rfl, (blk_cell BK132.out 3).trans rfl, (blk_cell BK132.out 4).trans rfl, (blk_cell BK132.out 5).trans rfl, (blk_cell BK132.out 6).trans rfl, (blk_cell BK132.out 7).trans rfl⟩ (fun hHeld => ?_); refine with_tabW impl_stmtTokens.tab3 impl_stmtTokens.bits3 (fun HT_ HW_ => ?_)
    generalize w8.drew = w10 at HO1 BK132 HK HB hHeld ⊢
    refine pr_ 0 9 (bz 10 1) HT_ ?_
    refine pr_ 2 11 (bz 10 5) HT_ ?_
    refine pr_ 3 12 (bz 10 13) HT_ ?_
    refine tk8_ 1 10 (bz 10 15) HT_ HW_ hHeld ?_
    refine tk8_ 4 13 (bz 10 31) HT_ HW_ hHeld ?_
    refine one_ (i := 5) (N := some 14) (bz 10 63) rfl rfl (one_of HT_.out (by kernel_rfl)) (by decide) (fun K hK => ?_)
    refine goes_ Tryz.func66 (by kernel_rfl) rfl #[.int .i64 a0_1] (by rfl) rfl rfl ab1_ ?_
    with_reducible refine (impl_varText.calls a0_1 t51 _ A4.out).mono ?_
    rintro e w' ⟨rfl, ⟨nd, rfl⟩⟩
    refine ⟨_, rfl, ?_⟩
    refine hK.out _ _ ⟨(blk_cell BK132.out 0).trans rfl, (blk_cell BK132.out 1).trans rfl, (blk_cell BK132.out 2).trans rfl, (blk_cell BK132.out 3).trans rfl, (blk_cell BK132.out 4).trans rfl, (blk_cell BK132.out 5).trans rfl, (blk_cell BK132.out 6).trans rfl, (blk_cell BK132.out 7).trans rfl⟩ (fun hHeld => ?_)
    clear hK K
    refine norm_ (a' := ?_) ?_ ?_
    rotate_left
    ·show Act.put _ (some 14) _ = _
     simp only [Act.put, List.setIfInBounds_toArray, List.set_cons_zero, List.set_cons_succ, i64_w, i32_w]
     rfl
    refine one_ (i := 6) (N := some 15) (bz 10 127) rfl rfl (one_of HT_.out (by kernel_rfl)) (by decide) (fun K hK => ?_)
    refine Kd.R_lit_step Kd.string _ 9 rfl (N := 15) rfl (xs := ([t51, (⟨#[61]⟩ : ByteArray)] : List ByteArray)) (inner := [.string t51, .string (⟨#[61]⟩ : ByteArray)]) (ok := fun _ => True) (okp := fun _ => True) rn_ ?hp (fun _ hk => hk) trivial (Below.refl _ _) (Nat.le_refl _) (by simp) ?_; (case hp => exact (Reps.one (show Kd.M Kd.string _ _ _ t51 [.string t51] from rfl) (Reps.one (show Kd.M Kd.string _ _ _ (⟨#[61]⟩ : ByteArray) [.string (⟨#[61]⟩ : ByteArray)] from rfl) (Reps.none _ _))))
    intro v135 w11 ho12 hb hg_ hnew_
    clear hg_ hnew_
    (first | rw [← Ny52.out] at ho12 | (simp only [Int.reduceToNat] at ho12; rw [← Ny52.out] at ho12))
    have HO136 := am (Kd.R_lower (Kd.R_new' (Kd.R_newM (M := fun k_ => (P1_ k_ ∨ w.heap.size ≤ k_)) ho12 (by first | exact HK.out.1 | exact (show Kept w _ (fun k_ => P1_ k_) from ab5_).1) (fun k_ h_ => .inr h_)) (Kd.R_lt (aR_ HO1.out))) (below_size ab7_))
    replace HO1 := am (Kd.R_elder' (aR_ HO1.out) (Kd.R_base ho12) hb)
    replace BK132 := am (bbl_ BK132.out hb)
    replace HK := am (Kept.below (S := (fun k_ => P1_ k_)) ab5_ hb)
    replace HB := am (below_step ab7_ hb)
    clear hb ho12
    obtain ⟨Ao14, co14, eo14⟩ := Kd.R_slice HO136.out
    (first | subst eo14 | (injection eo14 with f1_ f2_ f3_; have f4_ := f1_.symm; have f5_ := f3_.symm; clear f1_ f2_ f3_; subst f4_; subst f5_))
    refine hK.out _ _ ⟨(blk_cell BK132.out 0).trans rfl, (blk_cell BK132.out 1).trans rfl, (blk_cell BK132.out 2).trans rfl, (blk_cell BK132.out 3).trans rfl, (blk_cell BK132.out 4).trans rfl, (blk_cell BK132.out 5).trans rfl, (blk_cell BK132.out 6).trans rfl, (blk_cell BK132.out 7).trans rfl⟩ (fun hHeld => ?_)
    clear hK K
    refine norm_ (a' := ?_) ?_ ?_
    rotate_left
    ·show Act.put _ (some 15) _ = _
     simp only [Act.put, List.setIfInBounds_toArray, List.set_cons_zero, List.set_cons_succ, i64_w, i32_w]
     rfl
    refine one_ (i := 7) (N := some 16) (bz 10 255) rfl rfl (one_of HT_.out (by kernel_rfl)) (by decide) (fun K hK => ?_)
    refine Kd.R_append_rows_step Kd.string (w0 := w0) w0.heap.size (by rfl) (.tmp 11) (.tmp 15) 29 9 (.string ⟨#[]⟩) 16 rfl Tryz.underlying29 info9 rfl (by decide) (by omega) u39_ l1 y52 _ _ _ (fun k_ => (P1_ k_ ∨ w.heap.size ≤ k_) ∧ some k_ ≠ (.slice Ao14 y52.length co14 : Value).ownBlock) (fun _ => False) rfl rfl ?aO ?aR (fun _ _ h => h) (fun _ h => h.elim) ?aF ?aB ?aS ?aL ?_
    (case aR => repeat (first | exact (Kd.R_reads' HO136.out).2.2 | (with_reducible refine Kd.C_alloc ?_ _) | (with_reducible refine Kd.C_drewN ?_ _) | (with_reducible refine Kd.C_drew ?_)))
    (case aB => exact ab7_)
    (case aF => exact (fun k_ hk => ⟨(.inr (Nat.le_trans (by first | exact HK.out.1 | exact (show Kept w _ (fun k_ => P1_ k_) from ab5_).1) hk)), Kd.fresh' (Kd.R_lt (aR_ HO136.out)) k_ hk⟩))
    (case aO => exact (aR_ HO1.out))
    (case aS => exact (below_size ab7_))
    (case aL => have := LMc5.out; omega)
    intro v137 w13 ho hb hg hat
    rw [← Ny133.out] at ho
    replace BK132 := am (blk_grown (g := gb132) (o := .cells #[.int .i64 a0_0, .int .i64 a0_1, .int .i64 a0_2, .int .i64 a0_3, .int .i64 a0_4, .slice A0_5 l0_5.length c0_5, .slice A0_6 l0_6.length c0_6, .slice A0_7 l0_7.length c0_7] 58 (0, 0)) (aG_ BK132.out) hg (Kd.R_ne HO1.out BK132.out (by decide)))
    replace HO136 := am (Kd.R_after (ok := (fun k_ => (P1_ k_ ∨ w.heap.size ≤ k_))) (aRw_ (Kd.R_mono HO136.out (fun _ hk => ⟨hk.1.1, hk.2⟩))) hg hat)
    replace HB := am (hb)
    replace HK := am (Kept.of_grown (S := (fun k_ => P1_ k_)) hg ab5_ (fun k_ e_ => (HO1.out.1 k_ e_).1))
    have HO138 := am (ho)
    clear HO1
    clear ho hb hg hat
    obtain ⟨Ao15, co15, eo15⟩ := Kd.R_slice HO138.out
    (first | subst eo15 | (injection eo15 with f1_ f2_ f3_; have f4_ := f1_.symm; have f5_ := f3_.symm; clear f1_ f2_ f3_; subst f4_; subst f5_))
    refine hK.out _ _ ⟨(blk_cell BK132.out 0).trans rfl, (blk_cell BK132.out 1).trans rfl, (blk_cell BK132.out 2).trans rfl, (blk_cell BK132.out 3).trans rfl, (blk_cell BK132.out 4).trans rfl, (blk_cell BK132.out 5).trans rfl, (blk_cell BK132.out 6).trans rfl, (blk_cell BK132.out 7).trans rfl⟩ (fun hHeld => ?_)
    clear hK K
    refine norm_ (a' := ?_) ?_ ?_
    rotate_left
    ·show Act.put _ (some 16) _ = _
     simp only [Act.put, List.setIfInBounds_toArray, List.set_cons_zero, List.set_cons_succ, i64_w, i32_w]
     rfl
    refine one_ (i := 8) (N := some 17) (bz 10 511) rfl rfl (one_of HT_.out (by kernel_rfl)) (by decide) (fun K hK => ?_)
    refine goes_ Tryz.func65 (by kernel_rfl) rfl #[.agg #[.int .i64 a0_3, .int .i64 a0_4, .slice A0_5 l0_5.length c0_5], .slice Ao15 y133.length co15] (by rfl) rfl rfl ab1_ ?_
    with_reducible refine (impl_exprTokens.calls k a0_3 a0_4 _ _ l0_5 (fun k_ => some k_ = (.slice Ao15 y133.length co15 : Value).ownBlock) (.slice Ao15 y133.length co15) y133 t92 w0 _ ?side1 ?side2 HC0_5.out ?side4 ?sideT A6.out).mono ?_
    (case sideT => first | exact ht_ | exact Tab.below ht_ HB.out | exact Tab.below ht_ ab7_)
    (case side1 => exact ab7_)
    (case side2 => exact Kd.C_kept_call HR0_5.out ab5_ (fun k_ hs_ => (fun e_ => (HO138.out.1 k_ e_.symm).1) hs_))
    (case side4 => exact Kd.R_tight rfl HO138.out)
    rintro e w16 ⟨v139, rfl, ho0, hb, hkp⟩
    refine ⟨_, rfl, ?_⟩
    replace BK132 := am (blk_kept (aG_ BK132.out) hkp (fun hs_ => (fun e_ => (Kd.R_ne HO138.out BK132.out (by decide)) e_) hs_))
    have HO140 := am (Kd.R_mono (ok' := fun k_ => (P1_ k_ ∨ w.heap.size ≤ k_) ∧ some k_ ≠ (.slice Ao14 y52.length co14 : Value).ownBlock) ho0 (fun k_ hk_ => ⟨Or.elim hk_ (fun hs_ => (HO138.out.1 k_ (hs_).symm).1) (fun hn_ => (.inr (Nat.le_trans (by first | exact HK.out.1 | exact (show Kept w _ (fun k_ => P1_ k_) from ab5_).1) hn_))), Or.elim hk_ (fun hs_ => fun e_ => (((HO136.out).1 k_ e_.symm).2) hs_) (fun hn_ => (Kd.fresh' (Kd.R_lt (aR_ HO136.out)) k_ hn_))⟩))
    replace HO136 := am (Kd.R_mono (ok' := fun k_ => (P1_ k_ ∨ w.heap.size ≤ k_) ∧ some k_ ≠ (v139 : Value).ownBlock) (Kd.R_keptB (HO136.out) hkp (fun k_ hk_ hs_ => (hk_.2) hs_)) (fun k_ hk_ => ⟨hk_.1.1, fun e_ => Or.elim (ho0.1 k_ e_.symm) (fun hs_ => hk_.2.1 hs_) (fun hn_ => Nat.not_le.2 hk_.2.2 hn_)⟩))
    replace HK := am (Kept.then_ (S := (fun k_ => P1_ k_)) ab5_ hkp (fun k_ hs_ => (fun e_ => (HO138.out.1 k_ e_.symm).1) hs_))
    replace HB := am (hb)
    clear HO138
    (try clear hb)
    (try clear hkp)
    (try clear ho0)
    refine hK.out _ _ ⟨(blk_cell BK132.out 0).trans rfl, (blk_cell BK132.out 1).trans rfl, (blk_cell BK132.out 2).trans rfl, (blk_cell BK132.out 3).trans rfl, (blk_cell BK132.out 4).trans rfl, (blk_cell BK132.out 5).trans rfl, (blk_cell BK132.out 6).trans rfl, (blk_cell BK132.out 7).trans rfl⟩ (fun hHeld => ?_)
    clear hK K
    refine norm_ (a' := ?_) ?_ ?_
    rotate_left
    ·show Act.put _ (some 17) _ = _
     simp only [Act.put, List.setIfInBounds_toArray, List.set_cons_zero, List.set_cons_succ, i64_w, i32_w]
     rfl
    refine pr_ 9 1 (bz 10 1023) HT_ ?_
    refine done_ (done_of HT_.out (by kernel_rfl)) ?_
    try go_wp2_with (first | ((with_reducible refine gate_builtin (b := .append) (xs := #[.tmp 86, .tmp 87]) rfl ?_); at_builtin; refine Kd.R_append Kd.string (w0 := w0) w0.heap.size rfl (.tmp 86) (.tmp 87) 29 9 (.string ⟨#[]⟩) 16 rfl Tryz.underlying29 info9 rfl (by decide) (by omega) v139 t92 (⟨#[59]⟩ : ByteArray) [.string (⟨#[59]⟩ : ByteArray)] (fun k_ => (P1_ k_ ∨ w.heap.size ≤ k_) ∧ some k_ ≠ (.slice Ao14 y52.length co14 : Value).ownBlock) (fun _ => False) rfl rfl ?aP (fun _ hk => hk.elim) ?aF ?aO ?aB ?aS ?aL ?_; (case aP => exact rfl); (case aB => exact ab7_); (case aF => exact (fun k_ hk => ⟨(.inr (Nat.le_trans (by first | exact HK.out.1 | exact (show Kept w _ (fun k_ => P1_ k_) from ab5_).1) hk)), Kd.fresh' (Kd.R_lt (aR_ HO136.out)) k_ hk⟩)); (case aO => exact (aR_ HO140.out)); (case aS => exact (below_size ab7_)); (case aL => have := LMc7.out; omega); intro v141 w17 ho hb hg hat; rw [← Ny134.out] at ho; replace BK132 := am (blk_grown (g := gb132) (o := .cells #[.int .i64 a0_0, .int .i64 a0_1, .int .i64 a0_2, .int .i64 a0_3, .int .i64 a0_4, .slice A0_5 l0_5.length c0_5, .slice A0_6 l0_6.length c0_6, .slice A0_7 l0_7.length c0_7] 58 (0, 0)) (aG_ BK132.out) hg (Kd.R_ne HO140.out BK132.out (by decide))); replace HO136 := am (Kd.R_after (ok := (fun k_ => (P1_ k_ ∨ w.heap.size ≤ k_))) (aR_ HO136.out) hg hat); replace HB := am (hb); replace HK := am (Kept.of_grown (S := (fun k_ => P1_ k_)) hg ab5_ (fun k_ e_ => (HO140.out.1 k_ e_).1)); have HO142 := am (ho); clear HO140 ho hb hg hat))
    go_ret
    exact ⟨_, ab13_, aRw_ (Kd.R_mono HO142.out (fun _ hk => hk.1)), ab7_, ab5_⟩
   rw [if_neg c7] at H
   exact absurd H (by simp)
  rw [if_neg c5] at H
  exact absurd H (by simp)
 rw [if_neg c3] at H
 have c3b0 : (a0_0 == 1) = false := beq_eq_false_iff_ne.mpr c3
 have c3b1 : (a0_0 != 1) = true := bne_iff_ne.mpr c3
 by_cases c18 : a0_0 = 2
 ·rw [if_pos c18] at H
  have c18b0 : (a0_0 == 2) = true := beq_iff_eq.mpr c18
  have c18b1 : (a0_0 != 2) = false := bne_eq_false_iff_eq.mpr c18
  clear c18
  by_cases c19 : l1.length < 8796093022208
  ·rw [if_pos c19] at H
   have LMc19 := am c19
   clear c19
   obtain ⟨y143, hy_⟩ : ∃ y_ : List ByteArray, y_ = (l1 ++ [(⟨#[105, 102]⟩ : ByteArray)]) := ⟨_, rfl⟩
   replace H : ((impl_exprTokens.f k a0_3 a0_4 l0_5 y143).bind fun t93 => ((impl_blockTokens.f k l0_6 t93).bind fun t109 => (if (l0_7.length : Int) > 0 then (if t109.length < 8796093022208 then ((impl_blockTokens.f k l0_7 (t109 ++ [(⟨#[101, 108, 115, 101]⟩ : ByteArray)])).bind fun t111 => (some t111)) else (none)) else (some t109)))) = some r := rx_
   have Ny143 := am hy_
   clear hy_
   obtain ⟨t93, A144, H⟩ := bsm H
   (try dsimp only at H)
   have A20 := am A144
   clear A144
   obtain ⟨t109, A145, H⟩ := bsm H
   (try dsimp only at H)
   have A21 := am A145
   clear A145
   by_cases c22 : (l0_7.length : Int) > 0
   ·rw [if_pos c22] at H
    have c22b0 : decide (0 < (l0_7.length : Int)) = true := decide_eq_true c22
    have c22b1 : decide (0 < l0_7.length) = true := decide_eq_true (by omega)
    clear c22
    by_cases c23 : t109.length < 8796093022208
    ·rw [if_pos c23] at H
     have LMc23 := am c23
     clear c23
     obtain ⟨y146, hy_⟩ : ∃ y_ : List ByteArray, y_ = (t109 ++ [(⟨#[101, 108, 115, 101]⟩ : ByteArray)]) := ⟨_, rfl⟩
     replace H : ((impl_blockTokens.f k l0_7 y146).bind fun t111 => (some t111)) = some r := rx_
     have Ny146 := am hy_
     clear hy_
     obtain ⟨t111, A147, H⟩ := bsm H
     (try dsimp only at H)
     have A24 := am A147
     clear A147
     obtain rfl := Option.some.inj H
     try go_wp2
     replace HO1 := am (Kd.R_drew HO1.out)
     replace BK132 := am (blk_drew BK132.out)
     replace HK := am (Kept.drew HK.out)
     replace HB := am (below_drew1 HB.out)
     refine start_ (n := 10) (S := fun w' => w'.cell? ⟨gb132, 0, none⟩ = some (.int .i64 a0_0) ∧ w'.cell? ⟨gb132, 1, none⟩ = some (.int .i64 a0_1) ∧ w'.cell? ⟨gb132, 2, none⟩ = some (.int .i64 a0_2) ∧ w'.cell? ⟨gb132, 3, none⟩ = some (.int .i64 a0_3) ∧ w'.cell? ⟨gb132, 4, none⟩ = some (.int .i64 a0_4) ∧ w'.cell? ⟨gb132, 5, none⟩ = some (.slice A0_5 l0_5.length c0_5) ∧ w'.cell? ⟨gb132, 6, none⟩ = some (.slice A0_6 l0_6.length c0_6) ∧ w'.cell? ⟨gb132, 7, none⟩ = some (.slice A0_7 l0_7.length c0_7)) (ds := []) (bz 10 0) (by kernel_rfl) rfl rfl ⟨(blk_cell BK132.out 0).trans rfl, (blk_cell BK132.out 1).trans rfl, (blk_cell BK132.out 2).trans rfl, (blk_cell BK132.out 3).trans rfl, (blk_cell BK132.out 4).trans rfl, (blk_cell BK132.out 5).trans rfl, (blk_cell BK132.out 6).trans rfl, (blk_cell BK132.out 7).trans rfl⟩ (fun hHeld => ?_); refine with_tabW impl_stmtTokens.tab5 impl_stmtTokens.bits5 (fun HT_ HW_ => ?_)
     generalize w8.drew = w27 at HO1 BK132 HK HB hHeld ⊢
     refine pr_ 0 20 (bz 10 1) HT_ ?_
     refine pr_ 2 22 (bz 10 5) HT_ ?_
     refine pr_ 4 24 (bz 10 21) HT_ ?_
     refine tk8_ 1 21 (bz 10 23) HT_ HW_ hHeld ?_
     refine tk8_ 3 23 (bz 10 31) HT_ HW_ hHeld ?_
     refine one_ (i := 5) (N := some 25) (bz 10 63) rfl rfl (one_of HT_.out (by kernel_rfl)) (by decide) (fun K hK => ?_)
     refine value_ (w1 := ?_) (v := ?_) (by rfl) rfl ?_ ?_
     rotate_left 2
     ·go_simp
      constructor
      ·rfl
      ·rfl
     refine hK.out _ _ ⟨(blk_cell (blk_alloc BK132.out _) 0).trans rfl, (blk_cell (blk_alloc BK132.out _) 1).trans rfl, (blk_cell (blk_alloc BK132.out _) 2).trans rfl, (blk_cell (blk_alloc BK132.out _) 3).trans rfl, (blk_cell (blk_alloc BK132.out _) 4).trans rfl, (blk_cell (blk_alloc BK132.out _) 5).trans rfl, (blk_cell (blk_alloc BK132.out _) 6).trans rfl, (blk_cell (blk_alloc BK132.out _) 7).trans rfl⟩ (fun hHeld => ?_)
     clear hK K
     refine norm_ (a' := ?_) ?_ ?_
     rotate_left
     ·show Act.put _ (some 25) _ = _
      simp only [Act.put, List.setIfInBounds_toArray, List.set_cons_zero, List.set_cons_succ, i64_w, i32_w]
      rfl
     refine one_ (i := 6) (N := some 26) (bz 10 127) rfl rfl (one_of HT_.out (by kernel_rfl)) (by decide) (fun K hK => ?_)
     refine Kd.R_append_step Kd.string (w0 := w0) w0.heap.size (by rfl) (.tmp 24) (.tmp 25) 29 9 (.string ⟨#[]⟩) 16 rfl Tryz.underlying29 info9 rfl (by decide) (by omega) u39_ l1 (⟨#[105, 102]⟩ : ByteArray) [.string (⟨#[105, 102]⟩ : ByteArray)] (fun k_ => (P1_ k_ ∨ w.heap.size ≤ k_)) (fun _ => False) rfl rfl ?aP (fun _ hk => hk.elim) ?aF ?aO ?aB ?aS ?aL ?_
     (case aP => exact rfl)
     (case aB => exact ab7_)
     (case aF => exact (fun k_ hk => (.inr (Nat.le_trans (by first | exact HK.out.1 | exact (show Kept w _ (fun k_ => P1_ k_) from ab5_).1) hk))))
     (case aO => exact (aR_ HO1.out))
     (case aS => exact (below_size ab7_))
     (case aL => have := LMc19.out; omega)
     intro v148 w28 ho hb hg hat
     rw [← Ny143.out] at ho
     replace BK132 := am (blk_grown (g := gb132) (o := .cells #[.int .i64 a0_0, .int .i64 a0_1, .int .i64 a0_2, .int .i64 a0_3, .int .i64 a0_4, .slice A0_5 l0_5.length c0_5, .slice A0_6 l0_6.length c0_6, .slice A0_7 l0_7.length c0_7] 58 (0, 0)) (aG_ BK132.out) hg (Kd.R_ne HO1.out BK132.out (by decide)))
     replace HB := am (hb)
     replace HK := am (Kept.of_grown (S := (fun k_ => P1_ k_)) hg ab5_ (fun k_ e_ => (HO1.out.1 k_ e_)))
     have HO149 := am (ho)
     clear HO1
     clear ho hb hg hat
     obtain ⟨Ao29, co29, eo29⟩ := Kd.R_slice HO149.out
     (first | subst eo29 | (injection eo29 with f1_ f2_ f3_; have f4_ := f1_.symm; have f5_ := f3_.symm; clear f1_ f2_ f3_; subst f4_; subst f5_))
     refine hK.out _ _ ⟨(blk_cell BK132.out 0).trans rfl, (blk_cell BK132.out 1).trans rfl, (blk_cell BK132.out 2).trans rfl, (blk_cell BK132.out 3).trans rfl, (blk_cell BK132.out 4).trans rfl, (blk_cell BK132.out 5).trans rfl, (blk_cell BK132.out 6).trans rfl, (blk_cell BK132.out 7).trans rfl⟩ (fun hHeld => ?_)
     clear hK K
     refine norm_ (a' := ?_) ?_ ?_
     rotate_left
     ·show Act.put _ (some 26) _ = _
      simp only [Act.put, List.setIfInBounds_toArray, List.set_cons_zero, List.set_cons_succ, i64_w, i32_w]
      rfl
     refine one_ (i := 7) (N := some 27) (bz 10 255) rfl rfl (one_of HT_.out (by kernel_rfl)) (by decide) (fun K hK => ?_)
     refine goes_ Tryz.func65 (by kernel_rfl) rfl #[.agg #[.int .i64 a0_3, .int .i64 a0_4, .slice A0_5 l0_5.length c0_5], .slice Ao29 y143.length co29] (by rfl) rfl rfl ab1_ ?_
     with_reducible refine (impl_exprTokens.calls k a0_3 a0_4 _ _ l0_5 (fun k_ => some k_ = (.slice Ao29 y143.length co29 : Value).ownBlock) (.slice Ao29 y143.length co29) y143 t93 w0 _ ?side1 ?side2 HC0_5.out ?side4 ?sideT A20.out).mono ?_
     (case sideT => first | exact ht_ | exact Tab.below ht_ HB.out | exact Tab.below ht_ ab7_)
     (case side1 => exact ab7_)
     (case side2 => exact Kd.C_kept_call HR0_5.out ab5_ (fun k_ hs_ => (fun e_ => (HO149.out.1 k_ e_.symm)) hs_))
     (case side4 => exact Kd.R_tight rfl HO149.out)
     rintro e w30 ⟨v150, rfl, ho0, hb, hkp⟩
     refine ⟨_, rfl, ?_⟩
     replace BK132 := am (blk_kept (aG_ BK132.out) hkp (fun hs_ => (fun e_ => (Kd.R_ne HO149.out BK132.out (by decide)) e_) hs_))
     have HO151 := am (Kd.R_mono (ok' := fun k_ => (P1_ k_ ∨ w.heap.size ≤ k_)) ho0 (fun k_ hk_ => Or.elim hk_ (fun hs_ => (HO149.out.1 k_ (hs_).symm)) (fun hn_ => (.inr (Nat.le_trans (by first | exact HK.out.1 | exact (show Kept w _ (fun k_ => P1_ k_) from ab5_).1) hn_)))))
     replace HK := am (Kept.then_ (S := (fun k_ => P1_ k_)) ab5_ hkp (fun k_ hs_ => (fun e_ => (HO149.out.1 k_ e_.symm)) hs_))
     replace HB := am (hb)
     clear HO149
     (try clear hb)
     (try clear hkp)
     (try clear ho0)
     obtain ⟨Ao31, co31, eo31⟩ := Kd.R_slice HO151.out
     (first | subst eo31 | (injection eo31 with f1_ f2_ f3_; have f4_ := f1_.symm; have f5_ := f3_.symm; clear f1_ f2_ f3_; subst f4_; subst f5_))
     refine hK.out _ _ ⟨(blk_cell BK132.out 0).trans rfl, (blk_cell BK132.out 1).trans rfl, (blk_cell BK132.out 2).trans rfl, (blk_cell BK132.out 3).trans rfl, (blk_cell BK132.out 4).trans rfl, (blk_cell BK132.out 5).trans rfl, (blk_cell BK132.out 6).trans rfl, (blk_cell BK132.out 7).trans rfl⟩ (fun hHeld => ?_)
     clear hK K
     refine norm_ (a' := ?_) ?_ ?_
     rotate_left
     ·show Act.put _ (some 27) _ = _
      simp only [Act.put, List.setIfInBounds_toArray, List.set_cons_zero, List.set_cons_succ, i64_w, i32_w]
      rfl
     refine one_ (i := 8) (N := some 28) (bz 10 511) rfl rfl (one_of HT_.out (by kernel_rfl)) (by decide) (fun K hK => ?_)
     refine goes_ Tryz.func21 (by kernel_rfl) rfl #[.slice A0_6 l0_6.length c0_6, .slice Ao31 t93.length co31] (by rfl) rfl rfl ab1_ ?_
     with_reducible refine (ih_impl_blockTokens k (by omega) _ _ l0_6 (fun k_ => some k_ = (.slice Ao31 t93.length co31 : Value).ownBlock) (.slice Ao31 t93.length co31) t93 t109 w0 _ ?side1 ?side2 HC0_6.out ?side4 ?sideT A21.out).mono ?_
     (case sideT => first | exact ht_ | exact Tab.below ht_ HB.out | exact Tab.below ht_ ab7_)
     (case side1 => exact ab7_)
     (case side2 => exact Kd.C_kept_call HR0_6.out ab5_ (fun k_ hs_ => (fun e_ => (HO151.out.1 k_ e_.symm)) hs_))
     (case side4 => exact Kd.R_tight rfl HO151.out)
     rintro e w32 ⟨v152, rfl, ho0, hb, hkp⟩
     refine ⟨_, rfl, ?_⟩
     replace BK132 := am (blk_kept (aG_ BK132.out) hkp (fun hs_ => (fun e_ => (Kd.R_ne HO151.out BK132.out (by decide)) e_) hs_))
     have HO153 := am (Kd.R_mono (ok' := fun k_ => (P1_ k_ ∨ w.heap.size ≤ k_)) ho0 (fun k_ hk_ => Or.elim hk_ (fun hs_ => (HO151.out.1 k_ (hs_).symm)) (fun hn_ => (.inr (Nat.le_trans (by first | exact HK.out.1 | exact (show Kept w _ (fun k_ => P1_ k_) from ab5_).1) hn_)))))
     replace HK := am (Kept.then_ (S := (fun k_ => P1_ k_)) ab5_ hkp (fun k_ hs_ => (fun e_ => (HO151.out.1 k_ e_.symm)) hs_))
     replace HB := am (hb)
     clear HO151
     (try clear hb)
     (try clear hkp)
     (try clear ho0)
     refine hK.out _ _ ⟨(blk_cell BK132.out 0).trans rfl, (blk_cell BK132.out 1).trans rfl, (blk_cell BK132.out 2).trans rfl, (blk_cell BK132.out 3).trans rfl, (blk_cell BK132.out 4).trans rfl, (blk_cell BK132.out 5).trans rfl, (blk_cell BK132.out 6).trans rfl, (blk_cell BK132.out 7).trans rfl⟩ (fun hHeld => ?_)
     clear hK K
     refine norm_ (a' := ?_) ?_ ?_
     rotate_left
     ·show Act.put _ (some 28) _ = _
      simp only [Act.put, List.setIfInBounds_toArray, List.set_cons_zero, List.set_cons_succ, i64_w, i32_w]
      rfl
     refine pr_ 9 1 (bz 10 1023) HT_ ?_
     refine done_ (done_of HT_.out (by kernel_rfl)) ?_
     obtain ⟨hcz33_0, hcz33_1, hcz33_2, hcz33_3, hcz33_4, hcz33_5, hcz33_6, hcz33_7, hfz33_0, hfz33_1, hfz33_2, hfz33_3, hfz33_4, hfz33_5, hfz33_6, hfz33_7⟩ := bcf8_ BK132.out
     try go_wp2
     replace HO153 := am (Kd.R_drew HO153.out)
     replace BK132 := am (blk_drew BK132.out)
     replace HK := am (Kept.drew HK.out)
     replace HB := am (below_drew1 HB.out)
     refine start_ (n := 7) (S := fun w' => w'.cell? ⟨gb132, 0, none⟩ = some (.int .i64 a0_0) ∧ w'.cell? ⟨gb132, 1, none⟩ = some (.int .i64 a0_1) ∧ w'.cell? ⟨gb132, 2, none⟩ = some (.int .i64 a0_2) ∧ w'.cell? ⟨gb132, 3, none⟩ = some (.int .i64 a0_3) ∧ w'.cell? ⟨gb132, 4, none⟩ = some (.int .i64 a0_4) ∧ w'.cell? ⟨gb132, 5, none⟩ = some (.slice A0_5 l0_5.length c0_5) ∧ w'.cell? ⟨gb132, 6, none⟩ = some (.slice A0_6 l0_6.length c0_6) ∧ w'.cell? ⟨gb132, 7, none⟩ = some (.slice A0_7 l0_7.length c0_7)) (ds := []) (bz 7 0) (by kernel_rfl) rfl rfl ⟨(blk_cell BK132.out 0).trans rfl, (blk_cell BK132.out 1).trans rfl, (blk_cell BK132.out 2).trans rfl, (blk_cell BK132.out 3).trans rfl, (blk_cell BK132.out 4).trans rfl, (blk_cell BK132.out 5).trans rfl, (blk_cell BK132.out 6).trans rfl, (blk_cell BK132.out 7).trans rfl⟩ (fun hHeld => ?_)
     generalize w32.drew = w34 at HO153 BK132 HK HB hHeld ⊢
     refine pure_ (i := 0) (N := some 33) (v := ?_) (a' := ?_) (bz 7 1) rfl rfl (by kernel_rfl) (fun _ _ _ h => h) (Or.inl ⟨by rfl, ?_⟩) ?_ ?_
     rotate_left
     ·intro w'
      go_simp
      with_reducible rfl
     rotate_left
     ·simp only [Act.put, List.setIfInBounds_toArray, List.set_cons_zero, List.set_cons_succ, i64_w, i32_w]
      rfl
     refine pure_ (i := 2) (N := some 35) (v := ?_) (a' := ?_) (bz 7 5) rfl rfl (by kernel_rfl) (fun _ _ _ h => h) (Or.inl ⟨by rfl, ?_⟩) ?_ ?_
     rotate_left
     ·intro w'
      go_simp
      with_reducible rfl
     rotate_left
     ·simp only [Act.put, List.setIfInBounds_toArray, List.set_cons_zero, List.set_cons_succ, i64_w, i32_w]
      rfl
     refine take_ (i := 1) (N := some 34) (v := ?_) (a' := ?_) (bz 7 7) rfl rfl (by kernel_rfl) (fun _ _ _ h => h) (Or.inl ⟨by rfl, ?_⟩) hHeld ?_ ?_
     rotate_left
     ·rintro w' ⟨s0, s1, s2, s3, s4, s5, s6, s7⟩
      go_simp
      with_reducible rfl
     rotate_left
     ·simp only [Act.put, List.setIfInBounds_toArray, List.set_cons_zero, List.set_cons_succ, i64_w, i32_w]
      rfl
     refine one_ (i := 3) (N := some 36) (bz 7 15) rfl rfl (by kernel_rfl) (by decide) (fun K hK => ?_)
     refine value_ (w1 := ?_) (v := ?_) (by rfl) rfl ?_ ?_
     rotate_left 2
     ·go_simp
      constructor
      ·rfl
      ·rfl
     refine hK.out _ _ ⟨(blk_cell (blk_alloc BK132.out _) 0).trans rfl, (blk_cell (blk_alloc BK132.out _) 1).trans rfl, (blk_cell (blk_alloc BK132.out _) 2).trans rfl, (blk_cell (blk_alloc BK132.out _) 3).trans rfl, (blk_cell (blk_alloc BK132.out _) 4).trans rfl, (blk_cell (blk_alloc BK132.out _) 5).trans rfl, (blk_cell (blk_alloc BK132.out _) 6).trans rfl, (blk_cell (blk_alloc BK132.out _) 7).trans rfl⟩ (fun hHeld => ?_)
     clear hK K
     refine norm_ (a' := ?_) ?_ ?_
     rotate_left
     ·show Act.put _ (some 36) _ = _
      simp only [Act.put, List.setIfInBounds_toArray, List.set_cons_zero, List.set_cons_succ, i64_w, i32_w]
      rfl
     refine one_ (i := 4) (N := some 37) (bz 7 31) rfl rfl (by kernel_rfl) (by decide) (fun K hK => ?_)
     refine Kd.R_append_step Kd.string (w0 := w0) w0.heap.size (by rfl) (.tmp 35) (.tmp 36) 29 9 (.string ⟨#[]⟩) 16 rfl Tryz.underlying29 info9 rfl (by decide) (by omega) v152 t109 (⟨#[101, 108, 115, 101]⟩ : ByteArray) [.string (⟨#[101, 108, 115, 101]⟩ : ByteArray)] (fun k_ => (P1_ k_ ∨ w.heap.size ≤ k_)) (fun _ => False) rfl rfl ?aP (fun _ hk => hk.elim) ?aF ?aO ?aB ?aS ?aL ?_
     (case aP => exact rfl)
     (case aB => exact ab7_)
     (case aF => exact (fun k_ hk => (.inr (Nat.le_trans (by first | exact HK.out.1 | exact (show Kept w _ (fun k_ => P1_ k_) from ab5_).1) hk))))
     (case aO => exact (aR_ HO153.out))
     (case aS => exact (below_size ab7_))
     (case aL => have := LMc23.out; omega)
     intro v154 w35 ho hb hg hat
     rw [← Ny146.out] at ho
     replace BK132 := am (blk_grown (g := gb132) (o := .cells #[.int .i64 a0_0, .int .i64 a0_1, .int .i64 a0_2, .int .i64 a0_3, .int .i64 a0_4, .slice A0_5 l0_5.length c0_5, .slice A0_6 l0_6.length c0_6, .slice A0_7 l0_7.length c0_7] 58 (0, 0)) (aG_ BK132.out) hg (Kd.R_ne HO153.out BK132.out (by decide)))
     replace HB := am (hb)
     replace HK := am (Kept.of_grown (S := (fun k_ => P1_ k_)) hg ab5_ (fun k_ e_ => (HO153.out.1 k_ e_)))
     have HO155 := am (ho)
     clear HO153
     clear ho hb hg hat
     obtain ⟨Ao36, co36, eo36⟩ := Kd.R_slice HO155.out
     (first | subst eo36 | (injection eo36 with f1_ f2_ f3_; have f4_ := f1_.symm; have f5_ := f3_.symm; clear f1_ f2_ f3_; subst f4_; subst f5_))
     refine hK.out _ _ ⟨(blk_cell BK132.out 0).trans rfl, (blk_cell BK132.out 1).trans rfl, (blk_cell BK132.out 2).trans rfl, (blk_cell BK132.out 3).trans rfl, (blk_cell BK132.out 4).trans rfl, (blk_cell BK132.out 5).trans rfl, (blk_cell BK132.out 6).trans rfl, (blk_cell BK132.out 7).trans rfl⟩ (fun hHeld => ?_)
     clear hK K
     refine norm_ (a' := ?_) ?_ ?_
     rotate_left
     ·show Act.put _ (some 37) _ = _
      simp only [Act.put, List.setIfInBounds_toArray, List.set_cons_zero, List.set_cons_succ, i64_w, i32_w]
      rfl
     refine one_ (i := 5) (N := some 38) (bz 7 63) rfl rfl (by kernel_rfl) (by decide) (fun K hK => ?_)
     refine goes_ Tryz.func21 (by kernel_rfl) rfl #[.slice A0_7 l0_7.length c0_7, .slice Ao36 y146.length co36] (by rfl) rfl rfl ab1_ ?_
     with_reducible refine (ih_impl_blockTokens k (by omega) _ _ l0_7 (fun k_ => some k_ = (.slice Ao36 y146.length co36 : Value).ownBlock) (.slice Ao36 y146.length co36) y146 t111 w0 _ ?side1 ?side2 HC0_7.out ?side4 ?sideT A24.out).mono ?_
     (case sideT => first | exact ht_ | exact Tab.below ht_ HB.out | exact Tab.below ht_ ab7_)
     (case side1 => exact ab7_)
     (case side2 => exact Kd.C_kept_call HR0_7.out ab5_ (fun k_ hs_ => (fun e_ => (HO155.out.1 k_ e_.symm)) hs_))
     (case side4 => exact Kd.R_tight rfl HO155.out)
     rintro e w37 ⟨v156, rfl, ho0, hb, hkp⟩
     refine ⟨_, rfl, ?_⟩
     replace BK132 := am (blk_kept (aG_ BK132.out) hkp (fun hs_ => (fun e_ => (Kd.R_ne HO155.out BK132.out (by decide)) e_) hs_))
     have HO157 := am (Kd.R_mono (ok' := fun k_ => (P1_ k_ ∨ w.heap.size ≤ k_)) ho0 (fun k_ hk_ => Or.elim hk_ (fun hs_ => (HO155.out.1 k_ (hs_).symm)) (fun hn_ => (.inr (Nat.le_trans (by first | exact HK.out.1 | exact (show Kept w _ (fun k_ => P1_ k_) from ab5_).1) hn_)))))
     replace HK := am (Kept.then_ (S := (fun k_ => P1_ k_)) ab5_ hkp (fun k_ hs_ => (fun e_ => (HO155.out.1 k_ e_.symm)) hs_))
     replace HB := am (hb)
     clear HO155
     (try clear hb)
     (try clear hkp)
     (try clear ho0)
     refine hK.out _ _ ⟨(blk_cell BK132.out 0).trans rfl, (blk_cell BK132.out 1).trans rfl, (blk_cell BK132.out 2).trans rfl, (blk_cell BK132.out 3).trans rfl, (blk_cell BK132.out 4).trans rfl, (blk_cell BK132.out 5).trans rfl, (blk_cell BK132.out 6).trans rfl, (blk_cell BK132.out 7).trans rfl⟩ (fun hHeld => ?_)
     clear hK K
     refine norm_ (a' := ?_) ?_ ?_
     rotate_left
     ·show Act.put _ (some 38) _ = _
      simp only [Act.put, List.setIfInBounds_toArray, List.set_cons_zero, List.set_cons_succ, i64_w, i32_w]
      rfl
     refine pure_ (i := 6) (N := some 1) (v := ?_) (a' := ?_) (bz 7 127) rfl rfl (by kernel_rfl) (fun _ _ _ h => h) (Or.inl ⟨by rfl, ?_⟩) ?_ ?_
     rotate_left
     ·intro w'
      go_simp
      with_reducible rfl
     rotate_left
     ·simp only [Act.put, List.setIfInBounds_toArray, List.set_cons_zero, List.set_cons_succ, i64_w, i32_w]
      rfl
     refine done_ (by kernel_rfl) ?_
     try go_wp2
     go_ret
     exact ⟨_, ab13_, aRw_ HO157.out, ab7_, ab5_⟩
    rw [if_neg c23] at H
    exact absurd H (by simp)
   rw [if_neg c22] at H
   have c22b0 : decide (0 < (l0_7.length : Int)) = false := decide_eq_false c22
   have c22b1 : decide (0 < l0_7.length) = false := decide_eq_false (by omega)
   clear c22
   obtain rfl := Option.some.inj H
   try go_wp2
   replace HO1 := am (Kd.R_drew HO1.out)
   replace BK132 := am (blk_drew BK132.out)
   replace HK := am (Kept.drew HK.out)
   replace HB := am (below_drew1 HB.out)
   refine start_ (n := 10) (S := fun w' => w'.cell? ⟨gb132, 0, none⟩ = some (.int .i64 a0_0) ∧ w'.cell? ⟨gb132, 1, none⟩ = some (.int .i64 a0_1) ∧ w'.cell? ⟨gb132, 2, none⟩ = some (.int .i64 a0_2) ∧ w'.cell? ⟨gb132, 3, none⟩ = some (.int .i64 a0_3) ∧ w'.cell? ⟨gb132, 4, none⟩ = some (.int .i64 a0_4) ∧ w'.cell? ⟨gb132, 5, none⟩ = some (.slice A0_5 l0_5.length c0_5) ∧ w'.cell? ⟨gb132, 6, none⟩ = some (.slice A0_6 l0_6.length c0_6) ∧ w'.cell? ⟨gb132, 7, none⟩ = some (.slice A0_7 l0_7.length c0_7)) (ds := []) (bz 10 0) (by kernel_rfl) rfl rfl ⟨(blk_cell BK132.out 0).trans rfl, (blk_cell BK132.out 1).trans rfl, (blk_cell BK132.out 2).trans rfl, (blk_cell BK132.out 3).trans rfl, (blk_cell BK132.out 4).trans rfl, (blk_cell BK132.out 5).trans rfl, (blk_cell BK132.out 6).trans rfl, (blk_cell BK132.out 7).trans rfl⟩ (fun hHeld => ?_); refine with_tabW impl_stmtTokens.tab5 impl_stmtTokens.bits5 (fun HT_ HW_ => ?_)
   generalize w8.drew = w40 at HO1 BK132 HK HB hHeld ⊢
   refine pr_ 0 20 (bz 10 1) HT_ ?_
   refine pr_ 2 22 (bz 10 5) HT_ ?_
   refine pr_ 4 24 (bz 10 21) HT_ ?_
   refine tk8_ 1 21 (bz 10 23) HT_ HW_ hHeld ?_
   refine tk8_ 3 23 (bz 10 31) HT_ HW_ hHeld ?_
   refine one_ (i := 5) (N := some 25) (bz 10 63) rfl rfl (one_of HT_.out (by kernel_rfl)) (by decide) (fun K hK => ?_)
   refine value_ (w1 := ?_) (v := ?_) (by rfl) rfl ?_ ?_
   rotate_left 2
   ·go_simp
    constructor
    ·rfl
    ·rfl
   refine hK.out _ _ ⟨(blk_cell (blk_alloc BK132.out _) 0).trans rfl, (blk_cell (blk_alloc BK132.out _) 1).trans rfl, (blk_cell (blk_alloc BK132.out _) 2).trans rfl, (blk_cell (blk_alloc BK132.out _) 3).trans rfl, (blk_cell (blk_alloc BK132.out _) 4).trans rfl, (blk_cell (blk_alloc BK132.out _) 5).trans rfl, (blk_cell (blk_alloc BK132.out _) 6).trans rfl, (blk_cell (blk_alloc BK132.out _) 7).trans rfl⟩ (fun hHeld => ?_)
   clear hK K
   refine norm_ (a' := ?_) ?_ ?_
   rotate_left
   ·show Act.put _ (some 25) _ = _
    simp only [Act.put, List.setIfInBounds_toArray, List.set_cons_zero, List.set_cons_succ, i64_w, i32_w]
    rfl
   refine one_ (i := 6) (N := some 26) (bz 10 127) rfl rfl (one_of HT_.out (by kernel_rfl)) (by decide) (fun K hK => ?_)
   refine Kd.R_append_step Kd.string (w0 := w0) w0.heap.size (by rfl) (.tmp 24) (.tmp 25) 29 9 (.string ⟨#[]⟩) 16 rfl Tryz.underlying29 info9 rfl (by decide) (by omega) u39_ l1 (⟨#[105, 102]⟩ : ByteArray) [.string (⟨#[105, 102]⟩ : ByteArray)] (fun k_ => (P1_ k_ ∨ w.heap.size ≤ k_)) (fun _ => False) rfl rfl ?aP (fun _ hk => hk.elim) ?aF ?aO ?aB ?aS ?aL ?_
   (case aP => exact rfl)
   (case aB => exact ab7_)
   (case aF => exact (fun k_ hk => (.inr (Nat.le_trans (by first | exact HK.out.1 | exact (show Kept w _ (fun k_ => P1_ k_) from ab5_).1) hk))))
   (case aO => exact (aR_ HO1.out))
   (case aS => exact (below_size ab7_))
   (case aL => have := LMc19.out; omega)
   intro v148 w41 ho hb hg hat
   rw [← Ny143.out] at ho
   replace BK132 := am (blk_grown (g := gb132) (o := .cells #[.int .i64 a0_0, .int .i64 a0_1, .int .i64 a0_2, .int .i64 a0_3, .int .i64 a0_4, .slice A0_5 l0_5.length c0_5, .slice A0_6 l0_6.length c0_6, .slice A0_7 l0_7.length c0_7] 58 (0, 0)) (aG_ BK132.out) hg (Kd.R_ne HO1.out BK132.out (by decide)))
   replace HB := am (hb)
   replace HK := am (Kept.of_grown (S := (fun k_ => P1_ k_)) hg ab5_ (fun k_ e_ => (HO1.out.1 k_ e_)))
   have HO149 := am (ho)
   clear HO1
   clear ho hb hg hat
   obtain ⟨Ao42, co42, eo42⟩ := Kd.R_slice HO149.out
   (first | subst eo42 | (injection eo42 with f1_ f2_ f3_; have f4_ := f1_.symm; have f5_ := f3_.symm; clear f1_ f2_ f3_; subst f4_; subst f5_))
   refine hK.out _ _ ⟨(blk_cell BK132.out 0).trans rfl, (blk_cell BK132.out 1).trans rfl, (blk_cell BK132.out 2).trans rfl, (blk_cell BK132.out 3).trans rfl, (blk_cell BK132.out 4).trans rfl, (blk_cell BK132.out 5).trans rfl, (blk_cell BK132.out 6).trans rfl, (blk_cell BK132.out 7).trans rfl⟩ (fun hHeld => ?_)
   clear hK K
   refine norm_ (a' := ?_) ?_ ?_
   rotate_left
   ·show Act.put _ (some 26) _ = _
    simp only [Act.put, List.setIfInBounds_toArray, List.set_cons_zero, List.set_cons_succ, i64_w, i32_w]
    rfl
   refine one_ (i := 7) (N := some 27) (bz 10 255) rfl rfl (one_of HT_.out (by kernel_rfl)) (by decide) (fun K hK => ?_)
   refine goes_ Tryz.func65 (by kernel_rfl) rfl #[.agg #[.int .i64 a0_3, .int .i64 a0_4, .slice A0_5 l0_5.length c0_5], .slice Ao42 y143.length co42] (by rfl) rfl rfl ab1_ ?_
   with_reducible refine (impl_exprTokens.calls k a0_3 a0_4 _ _ l0_5 (fun k_ => some k_ = (.slice Ao42 y143.length co42 : Value).ownBlock) (.slice Ao42 y143.length co42) y143 t93 w0 _ ?side1 ?side2 HC0_5.out ?side4 ?sideT A20.out).mono ?_
   (case sideT => first | exact ht_ | exact Tab.below ht_ HB.out | exact Tab.below ht_ ab7_)
   (case side1 => exact ab7_)
   (case side2 => exact Kd.C_kept_call HR0_5.out ab5_ (fun k_ hs_ => (fun e_ => (HO149.out.1 k_ e_.symm)) hs_))
   (case side4 => exact Kd.R_tight rfl HO149.out)
   rintro e w43 ⟨v150, rfl, ho0, hb, hkp⟩
   refine ⟨_, rfl, ?_⟩
   replace BK132 := am (blk_kept (aG_ BK132.out) hkp (fun hs_ => (fun e_ => (Kd.R_ne HO149.out BK132.out (by decide)) e_) hs_))
   have HO151 := am (Kd.R_mono (ok' := fun k_ => (P1_ k_ ∨ w.heap.size ≤ k_)) ho0 (fun k_ hk_ => Or.elim hk_ (fun hs_ => (HO149.out.1 k_ (hs_).symm)) (fun hn_ => (.inr (Nat.le_trans (by first | exact HK.out.1 | exact (show Kept w _ (fun k_ => P1_ k_) from ab5_).1) hn_)))))
   replace HK := am (Kept.then_ (S := (fun k_ => P1_ k_)) ab5_ hkp (fun k_ hs_ => (fun e_ => (HO149.out.1 k_ e_.symm)) hs_))
   replace HB := am (hb)
   clear HO149
   (try clear hb)
   (try clear hkp)
   (try clear ho0)
   obtain ⟨Ao44, co44, eo44⟩ := Kd.R_slice HO151.out
   (first | subst eo44 | (injection eo44 with f1_ f2_ f3_; have f4_ := f1_.symm; have f5_ := f3_.symm; clear f1_ f2_ f3_; subst f4_; subst f5_))
   refine hK.out _ _ ⟨(blk_cell BK132.out 0).trans rfl, (blk_cell BK132.out 1).trans rfl, (blk_cell BK132.out 2).trans rfl, (blk_cell BK132.out 3).trans rfl, (blk_cell BK132.out 4).trans rfl, (blk_cell BK132.out 5).trans rfl, (blk_cell BK132.out 6).trans rfl, (blk_cell BK132.out 7).trans rfl⟩ (fun hHeld => ?_)
   clear hK K
   refine norm_ (a' := ?_) ?_ ?_
   rotate_left
   ·show Act.put _ (some 27) _ = _
    simp only [Act.put, List.setIfInBounds_toArray, List.set_cons_zero, List.set_cons_succ, i64_w, i32_w]
    rfl
   refine one_ (i := 8) (N := some 28) (bz 10 511) rfl rfl (one_of HT_.out (by kernel_rfl)) (by decide) (fun K hK => ?_)
   refine goes_ Tryz.func21 (by kernel_rfl) rfl #[.slice A0_6 l0_6.length c0_6, .slice Ao44 t93.length co44] (by rfl) rfl rfl ab1_ ?_
   with_reducible refine (ih_impl_blockTokens k (by omega) _ _ l0_6 (fun k_ => some k_ = (.slice Ao44 t93.length co44 : Value).ownBlock) (.slice Ao44 t93.length co44) t93 t109 w0 _ ?side1 ?side2 HC0_6.out ?side4 ?sideT A21.out).mono ?_
   (case sideT => first | exact ht_ | exact Tab.below ht_ HB.out | exact Tab.below ht_ ab7_)
   (case side1 => exact ab7_)
   (case side2 => exact Kd.C_kept_call HR0_6.out ab5_ (fun k_ hs_ => (fun e_ => (HO151.out.1 k_ e_.symm)) hs_))
   (case side4 => exact Kd.R_tight rfl HO151.out)
   rintro e w45 ⟨v152, rfl, ho0, hb, hkp⟩
   refine ⟨_, rfl, ?_⟩
   replace BK132 := am (blk_kept (aG_ BK132.out) hkp (fun hs_ => (fun e_ => (Kd.R_ne HO151.out BK132.out (by decide)) e_) hs_))
   have HO153 := am (Kd.R_mono (ok' := fun k_ => (P1_ k_ ∨ w.heap.size ≤ k_)) ho0 (fun k_ hk_ => Or.elim hk_ (fun hs_ => (HO151.out.1 k_ (hs_).symm)) (fun hn_ => (.inr (Nat.le_trans (by first | exact HK.out.1 | exact (show Kept w _ (fun k_ => P1_ k_) from ab5_).1) hn_)))))
   replace HK := am (Kept.then_ (S := (fun k_ => P1_ k_)) ab5_ hkp (fun k_ hs_ => (fun e_ => (HO151.out.1 k_ e_.symm)) hs_))
   replace HB := am (hb)
   clear HO151
   (try clear hb)
   (try clear hkp)
   (try clear ho0)
   refine hK.out _ _ ⟨(blk_cell BK132.out 0).trans rfl, (blk_cell BK132.out 1).trans rfl, (blk_cell BK132.out 2).trans rfl, (blk_cell BK132.out 3).trans rfl, (blk_cell BK132.out 4).trans rfl, (blk_cell BK132.out 5).trans rfl, (blk_cell BK132.out 6).trans rfl, (blk_cell BK132.out 7).trans rfl⟩ (fun hHeld => ?_)
   clear hK K
   refine norm_ (a' := ?_) ?_ ?_
   rotate_left
   ·show Act.put _ (some 28) _ = _
    simp only [Act.put, List.setIfInBounds_toArray, List.set_cons_zero, List.set_cons_succ, i64_w, i32_w]
    rfl
   refine pr_ 9 1 (bz 10 1023) HT_ ?_
   refine done_ (done_of HT_.out (by kernel_rfl)) ?_
   obtain ⟨hcz46_0, hcz46_1, hcz46_2, hcz46_3, hcz46_4, hcz46_5, hcz46_6, hcz46_7, hfz46_0, hfz46_1, hfz46_2, hfz46_3, hfz46_4, hfz46_5, hfz46_6, hfz46_7⟩ := bcf8_ BK132.out
   try go_wp2
   go_ret
   exact ⟨_, ab13_, aRw_ HO153.out, ab7_, ab5_⟩
  rw [if_neg c19] at H
  exact absurd H (by simp)
 rw [if_neg c18] at H
 have c18b0 : (a0_0 == 2) = false := beq_eq_false_iff_ne.mpr c18
 have c18b1 : (a0_0 != 2) = true := bne_iff_ne.mpr c18
 by_cases c47 : a0_0 = 3
 ·rw [if_pos c47] at H
  have c47b0 : (a0_0 == 3) = true := beq_iff_eq.mpr c47
  have c47b1 : (a0_0 != 3) = false := bne_eq_false_iff_eq.mpr c47
  clear c47
  by_cases c48 : l1.length < 8796093022208
  ·rw [if_pos c48] at H
   have LMc48 := am c48
   clear c48
   obtain ⟨y158, hy_⟩ : ∃ y_ : List ByteArray, y_ = (l1 ++ [(⟨#[119, 104, 105, 108, 101]⟩ : ByteArray)]) := ⟨_, rfl⟩
   replace H : ((impl_exprTokens.f k a0_3 a0_4 l0_5 y158).bind fun t113 => ((impl_blockTokens.f k l0_6 t113).bind fun t117 => (some t117))) = some r := rx_
   have Ny158 := am hy_
   clear hy_
   obtain ⟨t113, A159, H⟩ := bsm H
   (try dsimp only at H)
   have A49 := am A159
   clear A159
   obtain ⟨t117, A50, H⟩ := bsa H
   (try dsimp only at H)
   obtain rfl := Option.some.inj H
   try go_wp2
   replace HO1 := am (Kd.R_drew HO1.out)
   replace BK132 := am (blk_drew BK132.out)
   replace HK := am (Kept.drew HK.out)
   replace HB := am (below_drew1 HB.out)
   refine start_ (n := 10) (S := fun w' => w'.cell? ⟨gb132, 0, none⟩ = some (.int .i64 a0_0) ∧ w'.cell? ⟨gb132, 1, none⟩ = some (.int .i64 a0_1) ∧ w'.cell? ⟨gb132, 2, none⟩ = some (.int .i64 a0_2) ∧ w'.cell? ⟨gb132, 3, none⟩ = some (.int .i64 a0_3) ∧ w'.cell? ⟨gb132, 4, none⟩ = some (.int .i64 a0_4) ∧ w'.cell? ⟨gb132, 5, none⟩ = some (.slice A0_5 l0_5.length c0_5) ∧ w'.cell? ⟨gb132, 6, none⟩ = some (.slice A0_6 l0_6.length c0_6) ∧ w'.cell? ⟨gb132, 7, none⟩ = some (.slice A0_7 l0_7.length c0_7)) (ds := []) (bz 10 0) (by kernel_rfl) rfl rfl ⟨(blk_cell BK132.out 0).trans rfl, (blk_cell BK132.out 1).trans rfl, (blk_cell BK132.out 2).trans rfl, (blk_cell BK132.out 3).trans rfl, (blk_cell BK132.out 4).trans rfl, (blk_cell BK132.out 5).trans rfl, (blk_cell BK132.out 6).trans rfl, (blk_cell BK132.out 7).trans rfl⟩ (fun hHeld => ?_); refine with_tabW impl_stmtTokens.tab10 impl_stmtTokens.bits10 (fun HT_ HW_ => ?_)
   generalize w8.drew = w53 at HO1 BK132 HK HB hHeld ⊢
   refine pr_ 0 42 (bz 10 1) HT_ ?_
   refine pr_ 2 44 (bz 10 5) HT_ ?_
   refine pr_ 4 46 (bz 10 21) HT_ ?_
   refine tk8_ 1 43 (bz 10 23) HT_ HW_ hHeld ?_
   refine tk8_ 3 45 (bz 10 31) HT_ HW_ hHeld ?_
   refine one_ (i := 5) (N := some 47) (bz 10 63) rfl rfl (one_of HT_.out (by kernel_rfl)) (by decide) (fun K hK => ?_)
   refine value_ (w1 := ?_) (v := ?_) (by rfl) rfl ?_ ?_
   rotate_left 2
   ·go_simp
    constructor
    ·rfl
    ·rfl
   refine hK.out _ _ ⟨(blk_cell (blk_alloc BK132.out _) 0).trans rfl, (blk_cell (blk_alloc BK132.out _) 1).trans rfl, (blk_cell (blk_alloc BK132.out _) 2).trans rfl, (blk_cell (blk_alloc BK132.out _) 3).trans rfl, (blk_cell (blk_alloc BK132.out _) 4).trans rfl, (blk_cell (blk_alloc BK132.out _) 5).trans rfl, (blk_cell (blk_alloc BK132.out _) 6).trans rfl, (blk_cell (blk_alloc BK132.out _) 7).trans rfl⟩ (fun hHeld => ?_)
   clear hK K
   refine norm_ (a' := ?_) ?_ ?_
   rotate_left
   ·show Act.put _ (some 47) _ = _
    simp only [Act.put, List.setIfInBounds_toArray, List.set_cons_zero, List.set_cons_succ, i64_w, i32_w]
    rfl
   refine one_ (i := 6) (N := some 48) (bz 10 127) rfl rfl (one_of HT_.out (by kernel_rfl)) (by decide) (fun K hK => ?_)
   refine Kd.R_append_step Kd.string (w0 := w0) w0.heap.size (by rfl) (.tmp 46) (.tmp 47) 29 9 (.string ⟨#[]⟩) 16 rfl Tryz.underlying29 info9 rfl (by decide) (by omega) u39_ l1 (⟨#[119, 104, 105, 108, 101]⟩ : ByteArray) [.string (⟨#[119, 104, 105, 108, 101]⟩ : ByteArray)] (fun k_ => (P1_ k_ ∨ w.heap.size ≤ k_)) (fun _ => False) rfl rfl ?aP (fun _ hk => hk.elim) ?aF ?aO ?aB ?aS ?aL ?_
   (case aP => exact rfl)
   (case aB => exact ab7_)
   (case aF => exact (fun k_ hk => (.inr (Nat.le_trans (by first | exact HK.out.1 | exact (show Kept w _ (fun k_ => P1_ k_) from ab5_).1) hk))))
   (case aO => exact (aR_ HO1.out))
   (case aS => exact (below_size ab7_))
   (case aL => have := LMc48.out; omega)
   intro v161 w54 ho hb hg hat
   rw [← Ny158.out] at ho
   replace BK132 := am (blk_grown (g := gb132) (o := .cells #[.int .i64 a0_0, .int .i64 a0_1, .int .i64 a0_2, .int .i64 a0_3, .int .i64 a0_4, .slice A0_5 l0_5.length c0_5, .slice A0_6 l0_6.length c0_6, .slice A0_7 l0_7.length c0_7] 58 (0, 0)) (aG_ BK132.out) hg (Kd.R_ne HO1.out BK132.out (by decide)))
   replace HB := am (hb)
   replace HK := am (Kept.of_grown (S := (fun k_ => P1_ k_)) hg ab5_ (fun k_ e_ => (HO1.out.1 k_ e_)))
   have HO162 := am (ho)
   clear HO1
   clear ho hb hg hat
   obtain ⟨Ao55, co55, eo55⟩ := Kd.R_slice HO162.out
   (first | subst eo55 | (injection eo55 with f1_ f2_ f3_; have f4_ := f1_.symm; have f5_ := f3_.symm; clear f1_ f2_ f3_; subst f4_; subst f5_))
   refine hK.out _ _ ⟨(blk_cell BK132.out 0).trans rfl, (blk_cell BK132.out 1).trans rfl, (blk_cell BK132.out 2).trans rfl, (blk_cell BK132.out 3).trans rfl, (blk_cell BK132.out 4).trans rfl, (blk_cell BK132.out 5).trans rfl, (blk_cell BK132.out 6).trans rfl, (blk_cell BK132.out 7).trans rfl⟩ (fun hHeld => ?_)
   clear hK K
   refine norm_ (a' := ?_) ?_ ?_
   rotate_left
   ·show Act.put _ (some 48) _ = _
    simp only [Act.put, List.setIfInBounds_toArray, List.set_cons_zero, List.set_cons_succ, i64_w, i32_w]
    rfl
   refine one_ (i := 7) (N := some 49) (bz 10 255) rfl rfl (one_of HT_.out (by kernel_rfl)) (by decide) (fun K hK => ?_)
   refine goes_ Tryz.func65 (by kernel_rfl) rfl #[.agg #[.int .i64 a0_3, .int .i64 a0_4, .slice A0_5 l0_5.length c0_5], .slice Ao55 y158.length co55] (by rfl) rfl rfl ab1_ ?_
   with_reducible refine (impl_exprTokens.calls k a0_3 a0_4 _ _ l0_5 (fun k_ => some k_ = (.slice Ao55 y158.length co55 : Value).ownBlock) (.slice Ao55 y158.length co55) y158 t113 w0 _ ?side1 ?side2 HC0_5.out ?side4 ?sideT A49.out).mono ?_
   (case sideT => first | exact ht_ | exact Tab.below ht_ HB.out | exact Tab.below ht_ ab7_)
   (case side1 => exact ab7_)
   (case side2 => exact Kd.C_kept_call HR0_5.out ab5_ (fun k_ hs_ => (fun e_ => (HO162.out.1 k_ e_.symm)) hs_))
   (case side4 => exact Kd.R_tight rfl HO162.out)
   rintro e w56 ⟨v163, rfl, ho0, hb, hkp⟩
   refine ⟨_, rfl, ?_⟩
   replace BK132 := am (blk_kept (aG_ BK132.out) hkp (fun hs_ => (fun e_ => (Kd.R_ne HO162.out BK132.out (by decide)) e_) hs_))
   have HO164 := am (Kd.R_mono (ok' := fun k_ => (P1_ k_ ∨ w.heap.size ≤ k_)) ho0 (fun k_ hk_ => Or.elim hk_ (fun hs_ => (HO162.out.1 k_ (hs_).symm)) (fun hn_ => (.inr (Nat.le_trans (by first | exact HK.out.1 | exact (show Kept w _ (fun k_ => P1_ k_) from ab5_).1) hn_)))))
   replace HK := am (Kept.then_ (S := (fun k_ => P1_ k_)) ab5_ hkp (fun k_ hs_ => (fun e_ => (HO162.out.1 k_ e_.symm)) hs_))
   replace HB := am (hb)
   clear HO162
   (try clear hb)
   (try clear hkp)
   (try clear ho0)
   obtain ⟨Ao57, co57, eo57⟩ := Kd.R_slice HO164.out
   (first | subst eo57 | (injection eo57 with f1_ f2_ f3_; have f4_ := f1_.symm; have f5_ := f3_.symm; clear f1_ f2_ f3_; subst f4_; subst f5_))
   refine hK.out _ _ ⟨(blk_cell BK132.out 0).trans rfl, (blk_cell BK132.out 1).trans rfl, (blk_cell BK132.out 2).trans rfl, (blk_cell BK132.out 3).trans rfl, (blk_cell BK132.out 4).trans rfl, (blk_cell BK132.out 5).trans rfl, (blk_cell BK132.out 6).trans rfl, (blk_cell BK132.out 7).trans rfl⟩ (fun hHeld => ?_)
   clear hK K
   refine norm_ (a' := ?_) ?_ ?_
   rotate_left
   ·show Act.put _ (some 49) _ = _
    simp only [Act.put, List.setIfInBounds_toArray, List.set_cons_zero, List.set_cons_succ, i64_w, i32_w]
    rfl
   refine one_ (i := 8) (N := some 50) (bz 10 511) rfl rfl (one_of HT_.out (by kernel_rfl)) (by decide) (fun K hK => ?_)
   refine goes_ Tryz.func21 (by kernel_rfl) rfl #[.slice A0_6 l0_6.length c0_6, .slice Ao57 t113.length co57] (by rfl) rfl rfl ab1_ ?_
   with_reducible refine (ih_impl_blockTokens k (by omega) _ _ l0_6 (fun k_ => some k_ = (.slice Ao57 t113.length co57 : Value).ownBlock) (.slice Ao57 t113.length co57) t113 t117 w0 _ ?side1 ?side2 HC0_6.out ?side4 ?sideT A50.out).mono ?_
   (case sideT => first | exact ht_ | exact Tab.below ht_ HB.out | exact Tab.below ht_ ab7_)
   (case side1 => exact ab7_)
   (case side2 => exact Kd.C_kept_call HR0_6.out ab5_ (fun k_ hs_ => (fun e_ => (HO164.out.1 k_ e_.symm)) hs_))
   (case side4 => exact Kd.R_tight rfl HO164.out)
   rintro e w58 ⟨v165, rfl, ho0, hb, hkp⟩
   refine ⟨_, rfl, ?_⟩
   replace BK132 := am (blk_kept (aG_ BK132.out) hkp (fun hs_ => (fun e_ => (Kd.R_ne HO164.out BK132.out (by decide)) e_) hs_))
   have HO166 := am (Kd.R_mono (ok' := fun k_ => (P1_ k_ ∨ w.heap.size ≤ k_)) ho0 (fun k_ hk_ => Or.elim hk_ (fun hs_ => (HO164.out.1 k_ (hs_).symm)) (fun hn_ => (.inr (Nat.le_trans (by first | exact HK.out.1 | exact (show Kept w _ (fun k_ => P1_ k_) from ab5_).1) hn_)))))
   replace HK := am (Kept.then_ (S := (fun k_ => P1_ k_)) ab5_ hkp (fun k_ hs_ => (fun e_ => (HO164.out.1 k_ e_.symm)) hs_))
   replace HB := am (hb)
   clear HO164
   (try clear hb)
   (try clear hkp)
   (try clear ho0)
   refine hK.out _ _ ⟨(blk_cell BK132.out 0).trans rfl, (blk_cell BK132.out 1).trans rfl, (blk_cell BK132.out 2).trans rfl, (blk_cell BK132.out 3).trans rfl, (blk_cell BK132.out 4).trans rfl, (blk_cell BK132.out 5).trans rfl, (blk_cell BK132.out 6).trans rfl, (blk_cell BK132.out 7).trans rfl⟩ (fun hHeld => ?_)
   clear hK K
   refine norm_ (a' := ?_) ?_ ?_
   rotate_left
   ·show Act.put _ (some 50) _ = _
    simp only [Act.put, List.setIfInBounds_toArray, List.set_cons_zero, List.set_cons_succ, i64_w, i32_w]
    rfl
   refine pr_ 9 4 (bz 10 1023) HT_ ?_
   refine done_ (done_of HT_.out (by kernel_rfl)) ?_
   try go_wp2
   go_ret
   exact ⟨_, ab13_, aRw_ HO166.out, ab7_, ab5_⟩
  rw [if_neg c48] at H
  exact absurd H (by simp)
 rw [if_neg c47] at H
 have c47b0 : (a0_0 == 3) = false := beq_eq_false_iff_ne.mpr c47
 have c47b1 : (a0_0 != 3) = true := bne_iff_ne.mpr c47
 by_cases c59 : a0_0 = 4
 ·rw [if_pos c59] at H
  have c59b0 : (a0_0 == 4) = true := beq_iff_eq.mpr c59
  have c59b1 : (a0_0 != 4) = false := bne_eq_false_iff_eq.mpr c59
  clear c59
  obtain ⟨t120, A167, H⟩ := bsm H
  (try dsimp only at H)
  have A60 := am A167
  clear A167
  obtain ⟨y122, hy_⟩ : ∃ y_ : List ByteArray, y_ = (([(⟨#[115, 101, 110, 100]⟩ : ByteArray), t120] : List ByteArray)) := ⟨_, rfl⟩
  replace H : (if l1.length + y122.length < 8796093022208 then ((impl_exprTokens.f k a0_3 a0_4 l0_5 (l1 ++ y122)).bind fun t123 => (if t123.length < 8796093022208 then (some (t123 ++ [(⟨#[59]⟩ : ByteArray)])) else (none))) else (none)) = some r := rx_
  have Ny122 := am hy_
  clear hy_
  by_cases c61 : l1.length + y122.length < 8796093022208
  ·rw [if_pos c61] at H
   have LMc61 := am c61
   clear c61
   obtain ⟨y168, hy_⟩ : ∃ y_ : List ByteArray, y_ = (l1 ++ y122) := ⟨_, rfl⟩
   replace H : ((impl_exprTokens.f k a0_3 a0_4 l0_5 y168).bind fun t123 => (if t123.length < 8796093022208 then (some (t123 ++ [(⟨#[59]⟩ : ByteArray)])) else (none))) = some r := rx_
   have Ny168 := am hy_
   clear hy_
   obtain ⟨t123, A143, H⟩ := bsm H
   (try dsimp only at H)
   have A62 := am A143
   clear A143
   by_cases c63 : t123.length < 8796093022208
   ·rw [if_pos c63] at H
    have LMc63 := am c63
    clear c63
    obtain ⟨y169, hy_⟩ : ∃ y_ : List ByteArray, y_ = (t123 ++ [(⟨#[59]⟩ : ByteArray)]) := ⟨_, rfl⟩
    replace H : (some y169) = some r := rx_
    have Ny169 := am hy_
    clear hy_
    obtain rfl := Option.some.inj H
    try go_wp2
    replace HO1 := am (Kd.R_drew HO1.out)
    replace BK132 := am (blk_drew BK132.out)
    replace HK := am (Kept.drew HK.out)
    replace HB := am (below_drew1 HB.out)
    refine start_ (n := 10) (S := fun w' => w'.cell? ⟨gb132, 0, none⟩ = some (.int .i64 a0_0) ∧ w'.cell? ⟨gb132, 1, none⟩ = some (.int .i64 a0_1) ∧ w'.cell? ⟨gb132, 2, none⟩ = some (.int .i64 a0_2) ∧ w'.cell? ⟨gb132, 3, none⟩ = some (.int .i64 a0_3) ∧ w'.cell? ⟨gb132, 4, none⟩ = some (.int .i64 a0_4) ∧ w'.cell? ⟨gb132, 5, none⟩ = some (.slice A0_5 l0_5.length c0_5) ∧ w'.cell? ⟨gb132, 6, none⟩ = some (.slice A0_6 l0_6.length c0_6) ∧ w'.cell? ⟨gb132, 7, none⟩ = some (.slice A0_7 l0_7.length c0_7)) (ds := []) (bz 10 0) (by kernel_rfl) rfl rfl ⟨(blk_cell BK132.out 0).trans rfl, (blk_cell BK132.out 1).trans rfl, (blk_cell BK132.out 2).trans rfl, (blk_cell BK132.out 3).trans rfl, (blk_cell BK132.out 4).trans rfl, (blk_cell BK132.out 5).trans rfl, (blk_cell BK132.out 6).trans rfl, (blk_cell BK132.out 7).trans rfl⟩ (fun hHeld => ?_); refine with_tabW impl_stmtTokens.tab12 impl_stmtTokens.bits12 (fun HT_ HW_ => ?_)
    generalize w8.drew = w66 at HO1 BK132 HK HB hHeld ⊢
    refine pr_ 0 53 (bz 10 1) HT_ ?_
    refine pr_ 2 55 (bz 10 5) HT_ ?_
    refine pr_ 3 56 (bz 10 13) HT_ ?_
    refine tk8_ 1 54 (bz 10 15) HT_ HW_ hHeld ?_
    refine tk8_ 4 57 (bz 10 31) HT_ HW_ hHeld ?_
    refine one_ (i := 5) (N := some 58) (bz 10 63) rfl rfl (one_of HT_.out (by kernel_rfl)) (by decide) (fun K hK => ?_)
    refine goes_ Tryz.func20 (by kernel_rfl) rfl #[.int .i64 a0_2] (by rfl) rfl rfl ab1_ ?_
    with_reducible refine (strconv_Itoa_20.calls a0_2 t120 _ ?sideT A60.out).mono ?_
    (case sideT => first | exact ht_ | exact Tab.below ht_ HB.out | exact Tab.below ht_ ab7_)
    rintro e w67 ⟨rfl, hb⟩
    refine ⟨_, rfl, ?_⟩
    replace HO1 := am (Kd.R_below (aR_ HO1.out) hb)
    replace BK132 := am (bbl_ BK132.out hb)
    replace HK := am (Kept.below (S := (fun k_ => P1_ k_)) ab5_ hb)
    replace HB := am (below_step ab7_ hb)
    (try clear hb)
    (try clear hb2)
    (try clear hk)
    (try clear hi)
    refine hK.out _ _ ⟨(blk_cell BK132.out 0).trans rfl, (blk_cell BK132.out 1).trans rfl, (blk_cell BK132.out 2).trans rfl, (blk_cell BK132.out 3).trans rfl, (blk_cell BK132.out 4).trans rfl, (blk_cell BK132.out 5).trans rfl, (blk_cell BK132.out 6).trans rfl, (blk_cell BK132.out 7).trans rfl⟩ (fun hHeld => ?_)
    clear hK K
    refine norm_ (a' := ?_) ?_ ?_
    rotate_left
    ·show Act.put _ (some 58) _ = _
     simp only [Act.put, List.setIfInBounds_toArray, List.set_cons_zero, List.set_cons_succ, i64_w, i32_w]
     rfl
    refine one_ (i := 6) (N := some 59) (bz 10 127) rfl rfl (one_of HT_.out (by kernel_rfl)) (by decide) (fun K hK => ?_)
    refine Kd.R_lit_step Kd.string _ 9 rfl (N := 59) rfl (xs := ([(⟨#[115, 101, 110, 100]⟩ : ByteArray), t120] : List ByteArray)) (inner := [.string (⟨#[115, 101, 110, 100]⟩ : ByteArray), .string t120]) (ok := fun _ => True) (okp := fun _ => True) rn_ ?hp (fun _ hk => hk) trivial (Below.refl _ _) (Nat.le_refl _) (by simp) ?_; (case hp => exact (Reps.one (show Kd.M Kd.string _ _ _ (⟨#[115, 101, 110, 100]⟩ : ByteArray) [.string (⟨#[115, 101, 110, 100]⟩ : ByteArray)] from rfl) (Reps.one (show Kd.M Kd.string _ _ _ t120 [.string t120] from rfl) (Reps.none _ _))))
    intro v170 w68 ho69 hb hg_ hnew_
    clear hg_ hnew_
    (first | rw [← Ny122.out] at ho69 | (simp only [Int.reduceToNat] at ho69; rw [← Ny122.out] at ho69))
    have HO171 := am (Kd.R_lower (Kd.R_new' (Kd.R_newM (M := fun k_ => (P1_ k_ ∨ w.heap.size ≤ k_)) ho69 (by first | exact HK.out.1 | exact (show Kept w _ (fun k_ => P1_ k_) from ab5_).1) (fun k_ h_ => .inr h_)) (Kd.R_lt (aR_ HO1.out))) (below_size ab7_))
    replace HO1 := am (Kd.R_elder' (aR_ HO1.out) (Kd.R_base ho69) hb)
    replace BK132 := am (bbl_ BK132.out hb)
    replace HK := am (Kept.below (S := (fun k_ => P1_ k_)) ab5_ hb)
    replace HB := am (below_step ab7_ hb)
    clear hb ho69
    obtain ⟨Ao71, co71, eo71⟩ := Kd.R_slice HO171.out
    (first | subst eo71 | (injection eo71 with f1_ f2_ f3_; have f4_ := f1_.symm; have f5_ := f3_.symm; clear f1_ f2_ f3_; subst f4_; subst f5_))
    refine hK.out _ _ ⟨(blk_cell BK132.out 0).trans rfl, (blk_cell BK132.out 1).trans rfl, (blk_cell BK132.out 2).trans rfl, (blk_cell BK132.out 3).trans rfl, (blk_cell BK132.out 4).trans rfl, (blk_cell BK132.out 5).trans rfl, (blk_cell BK132.out 6).trans rfl, (blk_cell BK132.out 7).trans rfl⟩ (fun hHeld => ?_)
    clear hK K
    refine norm_ (a' := ?_) ?_ ?_
    rotate_left
    ·show Act.put _ (some 59) _ = _
     simp only [Act.put, List.setIfInBounds_toArray, List.set_cons_zero, List.set_cons_succ, i64_w, i32_w]
     rfl
    refine one_ (i := 7) (N := some 60) (bz 10 255) rfl rfl (one_of HT_.out (by kernel_rfl)) (by decide) (fun K hK => ?_)
    refine Kd.R_append_rows_step Kd.string (w0 := w0) w0.heap.size (by rfl) (.tmp 55) (.tmp 59) 29 9 (.string ⟨#[]⟩) 16 rfl Tryz.underlying29 info9 rfl (by decide) (by omega) u39_ l1 y122 _ _ _ (fun k_ => (P1_ k_ ∨ w.heap.size ≤ k_) ∧ some k_ ≠ (.slice Ao71 y122.length co71 : Value).ownBlock) (fun _ => False) rfl rfl ?aO ?aR (fun _ _ h => h) (fun _ h => h.elim) ?aF ?aB ?aS ?aL ?_
    (case aR => repeat (first | exact (Kd.R_reads' HO171.out).2.2 | (with_reducible refine Kd.C_alloc ?_ _) | (with_reducible refine Kd.C_drewN ?_ _) | (with_reducible refine Kd.C_drew ?_)))
    (case aB => exact ab7_)
    (case aF => exact (fun k_ hk => ⟨(.inr (Nat.le_trans (by first | exact HK.out.1 | exact (show Kept w _ (fun k_ => P1_ k_) from ab5_).1) hk)), Kd.fresh' (Kd.R_lt (aR_ HO171.out)) k_ hk⟩))
    (case aO => exact (aR_ HO1.out))
    (case aS => exact (below_size ab7_))
    (case aL => have := LMc61.out; omega)
    intro v172 w70 ho hb hg hat
    rw [← Ny168.out] at ho
    replace BK132 := am (blk_grown (g := gb132) (o := .cells #[.int .i64 a0_0, .int .i64 a0_1, .int .i64 a0_2, .int .i64 a0_3, .int .i64 a0_4, .slice A0_5 l0_5.length c0_5, .slice A0_6 l0_6.length c0_6, .slice A0_7 l0_7.length c0_7] 58 (0, 0)) (aG_ BK132.out) hg (Kd.R_ne HO1.out BK132.out (by decide)))
    replace HO171 := am (Kd.R_after (ok := (fun k_ => (P1_ k_ ∨ w.heap.size ≤ k_))) (aRw_ (Kd.R_mono HO171.out (fun _ hk => ⟨hk.1.1, hk.2⟩))) hg hat)
    replace HB := am (hb)
    replace HK := am (Kept.of_grown (S := (fun k_ => P1_ k_)) hg ab5_ (fun k_ e_ => (HO1.out.1 k_ e_).1))
    have HO173 := am (ho)
    clear HO1
    clear ho hb hg hat
    obtain ⟨Ao72, co72, eo72⟩ := Kd.R_slice HO173.out
    (first | subst eo72 | (injection eo72 with f1_ f2_ f3_; have f4_ := f1_.symm; have f5_ := f3_.symm; clear f1_ f2_ f3_; subst f4_; subst f5_))
    refine hK.out _ _ ⟨(blk_cell BK132.out 0).trans rfl, (blk_cell BK132.out 1).trans rfl, (blk_cell BK132.out 2).trans rfl, (blk_cell BK132.out 3).trans rfl, (blk_cell BK132.out 4).trans rfl, (blk_cell BK132.out 5).trans rfl, (blk_cell BK132.out 6).trans rfl, (blk_cell BK132.out 7).trans rfl⟩ (fun hHeld => ?_)
    clear hK K
    refine norm_ (a' := ?_) ?_ ?_
    rotate_left
    ·show Act.put _ (some 60) _ = _
     simp only [Act.put, List.setIfInBounds_toArray, List.set_cons_zero, List.set_cons_succ, i64_w, i32_w]
     rfl
    refine one_ (i := 8) (N := some 61) (bz 10 511) rfl rfl (one_of HT_.out (by kernel_rfl)) (by decide) (fun K hK => ?_)
    refine goes_ Tryz.func65 (by kernel_rfl) rfl #[.agg #[.int .i64 a0_3, .int .i64 a0_4, .slice A0_5 l0_5.length c0_5], .slice Ao72 y168.length co72] (by rfl) rfl rfl ab1_ ?_
    with_reducible refine (impl_exprTokens.calls k a0_3 a0_4 _ _ l0_5 (fun k_ => some k_ = (.slice Ao72 y168.length co72 : Value).ownBlock) (.slice Ao72 y168.length co72) y168 t123 w0 _ ?side1 ?side2 HC0_5.out ?side4 ?sideT A62.out).mono ?_
    (case sideT => first | exact ht_ | exact Tab.below ht_ HB.out | exact Tab.below ht_ ab7_)
    (case side1 => exact ab7_)
    (case side2 => exact Kd.C_kept_call HR0_5.out ab5_ (fun k_ hs_ => (fun e_ => (HO173.out.1 k_ e_.symm).1) hs_))
    (case side4 => exact Kd.R_tight rfl HO173.out)
    rintro e w73 ⟨v174, rfl, ho0, hb, hkp⟩
    refine ⟨_, rfl, ?_⟩
    replace BK132 := am (blk_kept (aG_ BK132.out) hkp (fun hs_ => (fun e_ => (Kd.R_ne HO173.out BK132.out (by decide)) e_) hs_))
    have HO175 := am (Kd.R_mono (ok' := fun k_ => (P1_ k_ ∨ w.heap.size ≤ k_) ∧ some k_ ≠ (.slice Ao71 y122.length co71 : Value).ownBlock) ho0 (fun k_ hk_ => ⟨Or.elim hk_ (fun hs_ => (HO173.out.1 k_ (hs_).symm).1) (fun hn_ => (.inr (Nat.le_trans (by first | exact HK.out.1 | exact (show Kept w _ (fun k_ => P1_ k_) from ab5_).1) hn_))), Or.elim hk_ (fun hs_ => fun e_ => (((HO171.out).1 k_ e_.symm).2) hs_) (fun hn_ => (Kd.fresh' (Kd.R_lt (aR_ HO171.out)) k_ hn_))⟩))
    replace HO171 := am (Kd.R_mono (ok' := fun k_ => (P1_ k_ ∨ w.heap.size ≤ k_) ∧ some k_ ≠ (v174 : Value).ownBlock) (Kd.R_keptB (HO171.out) hkp (fun k_ hk_ hs_ => (hk_.2) hs_)) (fun k_ hk_ => ⟨hk_.1.1, fun e_ => Or.elim (ho0.1 k_ e_.symm) (fun hs_ => hk_.2.1 hs_) (fun hn_ => Nat.not_le.2 hk_.2.2 hn_)⟩))
    replace HK := am (Kept.then_ (S := (fun k_ => P1_ k_)) ab5_ hkp (fun k_ hs_ => (fun e_ => (HO173.out.1 k_ e_.symm).1) hs_))
    replace HB := am (hb)
    clear HO173
    (try clear hb)
    (try clear hkp)
    (try clear ho0)
    refine hK.out _ _ ⟨(blk_cell BK132.out 0).trans rfl, (blk_cell BK132.out 1).trans rfl, (blk_cell BK132.out 2).trans rfl, (blk_cell BK132.out 3).trans rfl, (blk_cell BK132.out 4).trans rfl, (blk_cell BK132.out 5).trans rfl, (blk_cell BK132.out 6).trans rfl, (blk_cell BK132.out 7).trans rfl⟩ (fun hHeld => ?_)
    clear hK K
    refine norm_ (a' := ?_) ?_ ?_
    rotate_left
    ·show Act.put _ (some 61) _ = _
     simp only [Act.put, List.setIfInBounds_toArray, List.set_cons_zero, List.set_cons_succ, i64_w, i32_w]
     rfl
    refine pr_ 9 1 (bz 10 1023) HT_ ?_
    refine done_ (done_of HT_.out (by kernel_rfl)) ?_
    try go_wp2_with (first | ((with_reducible refine gate_builtin (b := .append) (xs := #[.tmp 86, .tmp 87]) rfl ?_); at_builtin; refine Kd.R_append Kd.string (w0 := w0) w0.heap.size rfl (.tmp 86) (.tmp 87) 29 9 (.string ⟨#[]⟩) 16 rfl Tryz.underlying29 info9 rfl (by decide) (by omega) v174 t123 (⟨#[59]⟩ : ByteArray) [.string (⟨#[59]⟩ : ByteArray)] (fun k_ => (P1_ k_ ∨ w.heap.size ≤ k_) ∧ some k_ ≠ (.slice Ao71 y122.length co71 : Value).ownBlock) (fun _ => False) rfl rfl ?aP (fun _ hk => hk.elim) ?aF ?aO ?aB ?aS ?aL ?_; (case aP => exact rfl); (case aB => exact ab7_); (case aF => exact (fun k_ hk => ⟨(.inr (Nat.le_trans (by first | exact HK.out.1 | exact (show Kept w _ (fun k_ => P1_ k_) from ab5_).1) hk)), Kd.fresh' (Kd.R_lt (aR_ HO171.out)) k_ hk⟩)); (case aO => exact (aR_ HO175.out)); (case aS => exact (below_size ab7_)); (case aL => have := LMc63.out; omega); intro v176 w74 ho hb hg hat; rw [← Ny169.out] at ho; replace BK132 := am (blk_grown (g := gb132) (o := .cells #[.int .i64 a0_0, .int .i64 a0_1, .int .i64 a0_2, .int .i64 a0_3, .int .i64 a0_4, .slice A0_5 l0_5.length c0_5, .slice A0_6 l0_6.length c0_6, .slice A0_7 l0_7.length c0_7] 58 (0, 0)) (aG_ BK132.out) hg (Kd.R_ne HO175.out BK132.out (by decide))); replace HO171 := am (Kd.R_after (ok := (fun k_ => (P1_ k_ ∨ w.heap.size ≤ k_))) (aR_ HO171.out) hg hat); replace HB := am (hb); replace HK := am (Kept.of_grown (S := (fun k_ => P1_ k_)) hg ab5_ (fun k_ e_ => (HO175.out.1 k_ e_).1)); have HO177 := am (ho); clear HO175 ho hb hg hat))
    go_ret
    exact ⟨_, ab13_, aRw_ (Kd.R_mono HO177.out (fun _ hk => hk.1)), ab7_, ab5_⟩
   rw [if_neg c63] at H
   exact absurd H (by simp)
  rw [if_neg c61] at H
  exact absurd H (by simp)
 rw [if_neg c59] at H
 have c59b0 : (a0_0 == 4) = false := beq_eq_false_iff_ne.mpr c59
 have c59b1 : (a0_0 != 4) = true := bne_iff_ne.mpr c59
 by_cases c75 : a0_0 = 5
 ·rw [if_pos c75] at H
  have c75b0 : (a0_0 == 5) = true := beq_iff_eq.mpr c75
  have c75b1 : (a0_0 != 5) = false := bne_eq_false_iff_eq.mpr c75
  clear c75
  obtain ⟨t125, A178, H⟩ := bsm H
  (try dsimp only at H)
  have A76 := am A178
  clear A178
  obtain ⟨t127, A179, H⟩ := bsm H
  (try dsimp only at H)
  have A77 := am A179
  clear A179
  obtain ⟨y128, hy_⟩ : ∃ y_ : List ByteArray, y_ = (([(⟨#[114, 101, 99, 118]⟩ : ByteArray), t125, t127] : List ByteArray)) := ⟨_, rfl⟩
  replace H : (if l1.length + y128.length < 8796093022208 then ((some (l1 ++ y128 : List ByteArray)).bind fun y129 => (if y129.length < 8796093022208 then (some (y129 ++ [(⟨#[59]⟩ : ByteArray)])) else (none))) else (none)) = some r := rx_
  have Ny128 := am hy_
  clear hy_
  by_cases c78 : l1.length + y128.length < 8796093022208
  ·rw [if_pos c78] at H
   have LMc78 := am c78
   clear c78
   obtain ⟨y129, hy_⟩ : ∃ y_ : List ByteArray, y_ = (l1 ++ y128) := ⟨_, rfl⟩
   replace H : (if y129.length < 8796093022208 then (some (y129 ++ [(⟨#[59]⟩ : ByteArray)])) else (none)) = some r := rx_
   have Ny129 := am hy_
   clear hy_
   by_cases c79 : y129.length < 8796093022208
   ·rw [if_pos c79] at H
    have LMc79 := am c79
    clear c79
    obtain ⟨y180, hy_⟩ : ∃ y_ : List ByteArray, y_ = (y129 ++ [(⟨#[59]⟩ : ByteArray)]) := ⟨_, rfl⟩
    replace H : (some y180) = some r := rx_
    have Ny180 := am hy_
    clear hy_
    obtain rfl := Option.some.inj H
    try go_wp2
    replace HO1 := am (Kd.R_drew HO1.out)
    replace BK132 := am (blk_drew BK132.out)
    replace HK := am (Kept.drew HK.out)
    replace HB := am (below_drew1 HB.out)
    refine start_ (n := 10) (S := fun w' => w'.cell? ⟨gb132, 0, none⟩ = some (.int .i64 a0_0) ∧ w'.cell? ⟨gb132, 1, none⟩ = some (.int .i64 a0_1) ∧ w'.cell? ⟨gb132, 2, none⟩ = some (.int .i64 a0_2) ∧ w'.cell? ⟨gb132, 3, none⟩ = some (.int .i64 a0_3) ∧ w'.cell? ⟨gb132, 4, none⟩ = some (.int .i64 a0_4) ∧ w'.cell? ⟨gb132, 5, none⟩ = some (.slice A0_5 l0_5.length c0_5) ∧ w'.cell? ⟨gb132, 6, none⟩ = some (.slice A0_6 l0_6.length c0_6) ∧ w'.cell? ⟨gb132, 7, none⟩ = some (.slice A0_7 l0_7.length c0_7)) (ds := []) (bz 10 0) (by kernel_rfl) rfl rfl ⟨(blk_cell BK132.out 0).trans rfl, (blk_cell BK132.out 1).trans rfl, (blk_cell BK132.out 2).trans rfl, (blk_cell BK132.out 3).trans rfl, (blk_cell BK132.out 4).trans rfl, (blk_cell BK132.out 5).trans rfl, (blk_cell BK132.out 6).trans rfl, (blk_cell BK132.out 7).trans rfl⟩ (fun hHeld => ?_); refine with_tabW impl_stmtTokens.tab14 impl_stmtTokens.bits14 (fun HT_ HW_ => ?_)
    generalize w8.drew = w82 at HO1 BK132 HK HB hHeld ⊢
    refine pr_ 0 64 (bz 10 1) HT_ ?_
    refine pr_ 1 65 (bz 10 3) HT_ ?_
    refine pr_ 4 68 (bz 10 19) HT_ ?_
    refine tk8_ 2 66 (bz 10 23) HT_ HW_ hHeld ?_
    refine tk8_ 5 69 (bz 10 55) HT_ HW_ hHeld ?_
    refine one_ (i := 3) (N := some 67) (bz 10 63) rfl rfl (one_of HT_.out (by kernel_rfl)) (by decide) (fun K hK => ?_)
    refine goes_ Tryz.func20 (by kernel_rfl) rfl #[.int .i64 a0_2] (by rfl) rfl rfl ab1_ ?_
    with_reducible refine (strconv_Itoa_20.calls a0_2 t125 _ ?sideT A76.out).mono ?_
    (case sideT => first | exact ht_ | exact Tab.below ht_ HB.out | exact Tab.below ht_ ab7_)
    rintro e w83 ⟨rfl, hb⟩
    refine ⟨_, rfl, ?_⟩
    replace HO1 := am (Kd.R_below (aR_ HO1.out) hb)
    replace BK132 := am (bbl_ BK132.out hb)
    replace HK := am (Kept.below (S := (fun k_ => P1_ k_)) ab5_ hb)
    replace HB := am (below_step ab7_ hb)
    (try clear hb)
    (try clear hb2)
    (try clear hk)
    (try clear hi)
    refine hK.out _ _ ⟨(blk_cell BK132.out 0).trans rfl, (blk_cell BK132.out 1).trans rfl, (blk_cell BK132.out 2).trans rfl, (blk_cell BK132.out 3).trans rfl, (blk_cell BK132.out 4).trans rfl, (blk_cell BK132.out 5).trans rfl, (blk_cell BK132.out 6).trans rfl, (blk_cell BK132.out 7).trans rfl⟩ (fun hHeld => ?_)
    clear hK K
    refine norm_ (a' := ?_) ?_ ?_
    rotate_left
    ·show Act.put _ (some 67) _ = _
     simp only [Act.put, List.setIfInBounds_toArray, List.set_cons_zero, List.set_cons_succ, i64_w, i32_w]
     rfl
    refine one_ (i := 6) (N := some 70) (bz 10 127) rfl rfl (one_of HT_.out (by kernel_rfl)) (by decide) (fun K hK => ?_)
    refine goes_ Tryz.func66 (by kernel_rfl) rfl #[.int .i64 a0_1] (by rfl) rfl rfl ab1_ ?_
    with_reducible refine (impl_varText.calls a0_1 t127 _ A77.out).mono ?_
    rintro e w' ⟨rfl, ⟨nd, rfl⟩⟩
    refine ⟨_, rfl, ?_⟩
    refine hK.out _ _ ⟨(blk_cell BK132.out 0).trans rfl, (blk_cell BK132.out 1).trans rfl, (blk_cell BK132.out 2).trans rfl, (blk_cell BK132.out 3).trans rfl, (blk_cell BK132.out 4).trans rfl, (blk_cell BK132.out 5).trans rfl, (blk_cell BK132.out 6).trans rfl, (blk_cell BK132.out 7).trans rfl⟩ (fun hHeld => ?_)
    clear hK K
    refine norm_ (a' := ?_) ?_ ?_
    rotate_left
    ·show Act.put _ (some 70) _ = _
     simp only [Act.put, List.setIfInBounds_toArray, List.set_cons_zero, List.set_cons_succ, i64_w, i32_w]
     rfl
    refine one_ (i := 7) (N := some 71) (bz 10 255) rfl rfl (one_of HT_.out (by kernel_rfl)) (by decide) (fun K hK => ?_)
    refine Kd.R_lit_step Kd.string _ 9 rfl (N := 71) rfl (xs := ([(⟨#[114, 101, 99, 118]⟩ : ByteArray), t125, t127] : List ByteArray)) (inner := [.string (⟨#[114, 101, 99, 118]⟩ : ByteArray), .string t125, .string t127]) (ok := fun _ => True) (okp := fun _ => True) rn_ ?hp (fun _ hk => hk) trivial (Below.refl _ _) (Nat.le_refl _) (by simp) ?_; (case hp => exact (Reps.one (show Kd.M Kd.string _ _ _ (⟨#[114, 101, 99, 118]⟩ : ByteArray) [.string (⟨#[114, 101, 99, 118]⟩ : ByteArray)] from rfl) (Reps.one (show Kd.M Kd.string _ _ _ t125 [.string t125] from rfl) (Reps.one (show Kd.M Kd.string _ _ _ t127 [.string t127] from rfl) (Reps.none _ _)))))
    intro v181 w84 ho85 hb hg_ hnew_
    clear hg_ hnew_
    (first | rw [← Ny128.out] at ho85 | (simp only [Int.reduceToNat] at ho85; rw [← Ny128.out] at ho85))
    have HO182 := am (Kd.R_lower (Kd.R_new' (Kd.R_newM (M := fun k_ => (P1_ k_ ∨ w.heap.size ≤ k_)) ho85 (by first | exact HK.out.1 | exact (show Kept w _ (fun k_ => P1_ k_) from ab5_).1) (fun k_ h_ => .inr h_)) (Kd.R_lt (aR_ HO1.out))) (below_size ab7_))
    replace HO1 := am (Kd.R_elder' (aR_ HO1.out) (Kd.R_base ho85) hb)
    replace BK132 := am (bbl_ BK132.out hb)
    replace HK := am (Kept.below (S := (fun k_ => P1_ k_)) ab5_ hb)
    replace HB := am (below_step ab7_ hb)
    clear hb ho85
    obtain ⟨Ao87, co87, eo87⟩ := Kd.R_slice HO182.out
    (first | subst eo87 | (injection eo87 with f1_ f2_ f3_; have f4_ := f1_.symm; have f5_ := f3_.symm; clear f1_ f2_ f3_; subst f4_; subst f5_))
    refine hK.out _ _ ⟨(blk_cell BK132.out 0).trans rfl, (blk_cell BK132.out 1).trans rfl, (blk_cell BK132.out 2).trans rfl, (blk_cell BK132.out 3).trans rfl, (blk_cell BK132.out 4).trans rfl, (blk_cell BK132.out 5).trans rfl, (blk_cell BK132.out 6).trans rfl, (blk_cell BK132.out 7).trans rfl⟩ (fun hHeld => ?_)
    clear hK K
    refine norm_ (a' := ?_) ?_ ?_
    rotate_left
    ·show Act.put _ (some 71) _ = _
     simp only [Act.put, List.setIfInBounds_toArray, List.set_cons_zero, List.set_cons_succ, i64_w, i32_w]
     rfl
    refine one_ (i := 8) (N := some 72) (bz 10 511) rfl rfl (one_of HT_.out (by kernel_rfl)) (by decide) (fun K hK => ?_)
    refine Kd.R_append_rows_step Kd.string (w0 := w0) w0.heap.size (by rfl) (.tmp 64) (.tmp 71) 29 9 (.string ⟨#[]⟩) 16 rfl Tryz.underlying29 info9 rfl (by decide) (by omega) u39_ l1 y128 _ _ _ (fun k_ => (P1_ k_ ∨ w.heap.size ≤ k_) ∧ some k_ ≠ (.slice Ao87 y128.length co87 : Value).ownBlock) (fun _ => False) rfl rfl ?aO ?aR (fun _ _ h => h) (fun _ h => h.elim) ?aF ?aB ?aS ?aL ?_
    (case aR => repeat (first | exact (Kd.R_reads' HO182.out).2.2 | (with_reducible refine Kd.C_alloc ?_ _) | (with_reducible refine Kd.C_drewN ?_ _) | (with_reducible refine Kd.C_drew ?_)))
    (case aB => exact ab7_)
    (case aF => exact (fun k_ hk => ⟨(.inr (Nat.le_trans (by first | exact HK.out.1 | exact (show Kept w _ (fun k_ => P1_ k_) from ab5_).1) hk)), Kd.fresh' (Kd.R_lt (aR_ HO182.out)) k_ hk⟩))
    (case aO => exact (aR_ HO1.out))
    (case aS => exact (below_size ab7_))
    (case aL => have := LMc78.out; omega)
    intro v183 w86 ho hb hg hat
    rw [← Ny129.out] at ho
    replace BK132 := am (blk_grown (g := gb132) (o := .cells #[.int .i64 a0_0, .int .i64 a0_1, .int .i64 a0_2, .int .i64 a0_3, .int .i64 a0_4, .slice A0_5 l0_5.length c0_5, .slice A0_6 l0_6.length c0_6, .slice A0_7 l0_7.length c0_7] 58 (0, 0)) (aG_ BK132.out) hg (Kd.R_ne HO1.out BK132.out (by decide)))
    replace HO182 := am (Kd.R_after (ok := (fun k_ => (P1_ k_ ∨ w.heap.size ≤ k_))) (aRw_ (Kd.R_mono HO182.out (fun _ hk => ⟨hk.1.1, hk.2⟩))) hg hat)
    replace HB := am (hb)
    replace HK := am (Kept.of_grown (S := (fun k_ => P1_ k_)) hg ab5_ (fun k_ e_ => (HO1.out.1 k_ e_).1))
    have HO184 := am (ho)
    clear HO1
    clear ho hb hg hat
    refine hK.out _ _ ⟨(blk_cell BK132.out 0).trans rfl, (blk_cell BK132.out 1).trans rfl, (blk_cell BK132.out 2).trans rfl, (blk_cell BK132.out 3).trans rfl, (blk_cell BK132.out 4).trans rfl, (blk_cell BK132.out 5).trans rfl, (blk_cell BK132.out 6).trans rfl, (blk_cell BK132.out 7).trans rfl⟩ (fun hHeld => ?_)
    clear hK K
    refine norm_ (a' := ?_) ?_ ?_
    rotate_left
    ·show Act.put _ (some 72) _ = _
     simp only [Act.put, List.setIfInBounds_toArray, List.set_cons_zero, List.set_cons_succ, i64_w, i32_w]
     rfl
    refine pr_ 9 1 (bz 10 1023) HT_ ?_
    refine done_ (done_of HT_.out (by kernel_rfl)) ?_
    try go_wp2_with (first | ((with_reducible refine gate_builtin (b := .append) (xs := #[.tmp 86, .tmp 87]) rfl ?_); at_builtin; refine Kd.R_append Kd.string (w0 := w0) w0.heap.size rfl (.tmp 86) (.tmp 87) 29 9 (.string ⟨#[]⟩) 16 rfl Tryz.underlying29 info9 rfl (by decide) (by omega) v183 y129 (⟨#[59]⟩ : ByteArray) [.string (⟨#[59]⟩ : ByteArray)] (fun k_ => (P1_ k_ ∨ w.heap.size ≤ k_) ∧ some k_ ≠ (.slice Ao87 y128.length co87 : Value).ownBlock) (fun _ => False) rfl rfl ?aP (fun _ hk => hk.elim) ?aF ?aO ?aB ?aS ?aL ?_; (case aP => exact rfl); (case aB => exact ab7_); (case aF => exact (fun k_ hk => ⟨(.inr (Nat.le_trans (by first | exact HK.out.1 | exact (show Kept w _ (fun k_ => P1_ k_) from ab5_).1) hk)), Kd.fresh' (Kd.R_lt (aR_ HO182.out)) k_ hk⟩)); (case aO => exact (aR_ HO184.out)); (case aS => exact (below_size ab7_)); (case aL => have := LMc79.out; omega); intro v185 w88 ho hb hg hat; rw [← Ny180.out] at ho; replace BK132 := am (blk_grown (g := gb132) (o := .cells #[.int .i64 a0_0, .int .i64 a0_1, .int .i64 a0_2, .int .i64 a0_3, .int .i64 a0_4, .slice A0_5 l0_5.length c0_5, .slice A0_6 l0_6.length c0_6, .slice A0_7 l0_7.length c0_7] 58 (0, 0)) (aG_ BK132.out) hg (Kd.R_ne HO184.out BK132.out (by decide))); replace HO182 := am (Kd.R_after (ok := (fun k_ => (P1_ k_ ∨ w.heap.size ≤ k_))) (aR_ HO182.out) hg hat); replace HB := am (hb); replace HK := am (Kept.of_grown (S := (fun k_ => P1_ k_)) hg ab5_ (fun k_ e_ => (HO184.out.1 k_ e_).1)); have HO186 := am (ho); clear HO184 ho hb hg hat))
    go_ret
    exact ⟨_, ab13_, aRw_ (Kd.R_mono HO186.out (fun _ hk => hk.1)), ab7_, ab5_⟩
   rw [if_neg c79] at H
   exact absurd H (by simp)
  rw [if_neg c78] at H
  exact absurd H (by simp)
 rw [if_neg c75] at H
 have c75b0 : (a0_0 == 5) = false := beq_eq_false_iff_ne.mpr c75
 have c75b1 : (a0_0 != 5) = true := bne_iff_ne.mpr c75
 by_cases c89 : a0_0 = 6
 ·rw [if_pos c89] at H
  have c89b0 : (a0_0 == 6) = true := beq_iff_eq.mpr c89
  have c89b1 : (a0_0 != 6) = false := bne_eq_false_iff_eq.mpr c89
  clear c89
  by_cases c90 : l1.length < 8796093022208
  ·rw [if_pos c90] at H
   have LMc90 := am c90
   clear c90
   obtain ⟨y130, hy_⟩ : ∃ y_ : List ByteArray, y_ = (l1 ++ [(⟨#[121, 105, 101, 108, 100]⟩ : ByteArray)]) := ⟨_, rfl⟩
   replace H : (if y130.length < 8796093022208 then (some (y130 ++ [(⟨#[59]⟩ : ByteArray)])) else (none)) = some r := rx_
   have Ny130 := am hy_
   clear hy_
   by_cases c91 : y130.length < 8796093022208
   ·rw [if_pos c91] at H
    have LMc91 := am c91
    clear c91
    obtain ⟨y187, hy_⟩ : ∃ y_ : List ByteArray, y_ = (y130 ++ [(⟨#[59]⟩ : ByteArray)]) := ⟨_, rfl⟩
    replace H : (some y187) = some r := rx_
    have Ny187 := am hy_
    clear hy_
    obtain rfl := Option.some.inj H
    go_wp2_with (first | ((with_reducible refine gate_builtin (b := .append) (xs := #[.tmp 75, .tmp 76]) rfl ?_); at_builtin; refine Kd.R_append Kd.string (w0 := w0) w0.heap.size rfl (.tmp 75) (.tmp 76) 29 9 (.string ⟨#[]⟩) 16 rfl Tryz.underlying29 info9 rfl (by decide) (by omega) u39_ l1 (⟨#[121, 105, 101, 108, 100]⟩ : ByteArray) [.string (⟨#[121, 105, 101, 108, 100]⟩ : ByteArray)] (fun k_ => (P1_ k_ ∨ w.heap.size ≤ k_)) (fun _ => False) rfl rfl ?aP (fun _ hk => hk.elim) ?aF ?aO ?aB ?aS ?aL ?_; (case aP => exact rfl); (case aB => exact ab7_); (case aF => exact (fun k_ hk => (.inr (Nat.le_trans (by first | exact HK.out.1 | exact (show Kept w _ (fun k_ => P1_ k_) from ab5_).1) hk)))); (case aO => exact (aR_ HO1.out)); (case aS => exact (below_size ab7_)); (case aL => have := LMc90.out; omega); intro v188 w94 ho hb hg hat; rw [← Ny130.out] at ho; replace BK132 := am (blk_grown (g := gb132) (o := .cells #[.int .i64 a0_0, .int .i64 a0_1, .int .i64 a0_2, .int .i64 a0_3, .int .i64 a0_4, .slice A0_5 l0_5.length c0_5, .slice A0_6 l0_6.length c0_6, .slice A0_7 l0_7.length c0_7] 58 (0, 0)) (aG_ BK132.out) hg (Kd.R_ne HO1.out BK132.out (by decide))); replace HB := am (hb); replace HK := am (Kept.of_grown (S := (fun k_ => P1_ k_)) hg ab5_ (fun k_ e_ => (HO1.out.1 k_ e_))); have HO189 := am (ho); clear HO1 ho hb hg hat) | ((with_reducible refine gate_builtin (b := .append) (xs := #[.tmp 86, .tmp 87]) rfl ?_); at_builtin; refine Kd.R_append Kd.string (w0 := w0) w0.heap.size rfl (.tmp 86) (.tmp 87) 29 9 (.string ⟨#[]⟩) 16 rfl Tryz.underlying29 info9 rfl (by decide) (by omega) v188 y130 (⟨#[59]⟩ : ByteArray) [.string (⟨#[59]⟩ : ByteArray)] (fun k_ => (P1_ k_ ∨ w.heap.size ≤ k_)) (fun _ => False) rfl rfl ?aP (fun _ hk => hk.elim) ?aF ?aO ?aB ?aS ?aL ?_; (case aP => exact rfl); (case aB => exact ab7_); (case aF => exact (fun k_ hk => (.inr (Nat.le_trans (by first | exact HK.out.1 | exact (show Kept w _ (fun k_ => P1_ k_) from ab5_).1) hk)))); (case aO => exact (aR_ HO189.out)); (case aS => exact (below_size ab7_)); (case aL => have := LMc91.out; omega); intro v190 w95 ho hb hg hat; rw [← Ny187.out] at ho; replace BK132 := am (blk_grown (g := gb132) (o := .cells #[.int .i64 a0_0, .int .i64 a0_1, .int .i64 a0_2, .int .i64 a0_3, .int .i64 a0_4, .slice A0_5 l0_5.length c0_5, .slice A0_6 l0_6.length c0_6, .slice A0_7 l0_7.length c0_7] 58 (0, 0)) (aG_ BK132.out) hg (Kd.R_ne HO189.out BK132.out (by decide))); replace HB := am (hb); replace HK := am (Kept.of_grown (S := (fun k_ => P1_ k_)) hg ab5_ (fun k_ e_ => (HO189.out.1 k_ e_))); have HO191 := am (ho); clear HO189 ho hb hg hat))
    go_ret
    exact ⟨_, ab13_, aRw_ HO191.out, ab7_, ab5_⟩
   rw [if_neg c91] at H
   exact absurd H (by simp)
  rw [if_neg c90] at H
  exact absurd H (by simp)
 rw [if_neg c89] at H
 have c89b0 : (a0_0 == 6) = false := beq_eq_false_iff_ne.mpr c89
 have c89b1 : (a0_0 != 6) = true := bne_iff_ne.mpr c89
 by_cases c96 : a0_0 = 7
 ·rw [if_pos c96] at H
  have c96b0 : (a0_0 == 7) = true := beq_iff_eq.mpr c96
  have c96b1 : (a0_0 != 7) = false := bne_eq_false_iff_eq.mpr c96
  clear c96
  by_cases c97 : l1.length < 8796093022208
  ·rw [if_pos c97] at H
   have LMc97 := am c97
   clear c97
   obtain ⟨y192, hy_⟩ : ∃ y_ : List ByteArray, y_ = (l1 ++ [(⟨#[112, 114, 105, 110, 116]⟩ : ByteArray)]) := ⟨_, rfl⟩
   replace H : ((impl_exprTokens.f k a0_3 a0_4 l0_5 y192).bind fun t131 => (if t131.length < 8796093022208 then (some (t131 ++ [(⟨#[59]⟩ : ByteArray)])) else (none))) = some r := rx_
   have Ny192 := am hy_
   clear hy_
   obtain ⟨t131, A193, H⟩ := bsm H
   (try dsimp only at H)
   have A98 := am A193
   clear A193
   by_cases c99 : t131.length < 8796093022208
   ·rw [if_pos c99] at H
    have LMc99 := am c99
    clear c99
    obtain ⟨y194, hy_⟩ : ∃ y_ : List ByteArray, y_ = (t131 ++ [(⟨#[59]⟩ : ByteArray)]) := ⟨_, rfl⟩
    replace H : (some y194) = some r := rx_
    have Ny194 := am hy_
    clear hy_
    obtain rfl := Option.some.inj H
    try go_wp2
    replace HO1 := am (Kd.R_drew HO1.out)
    replace BK132 := am (blk_drew BK132.out)
    replace HK := am (Kept.drew HK.out)
    replace HB := am (below_drew1 HB.out)
    refine start_ (n := 7) (S := fun w' => w'.cell? ⟨gb132, 0, none⟩ = some (.int .i64 a0_0) ∧ w'.cell? ⟨gb132, 1, none⟩ = some (.int .i64 a0_1) ∧ w'.cell? ⟨gb132, 2, none⟩ = some (.int .i64 a0_2) ∧ w'.cell? ⟨gb132, 3, none⟩ = some (.int .i64 a0_3) ∧ w'.cell? ⟨gb132, 4, none⟩ = some (.int .i64 a0_4) ∧ w'.cell? ⟨gb132, 5, none⟩ = some (.slice A0_5 l0_5.length c0_5) ∧ w'.cell? ⟨gb132, 6, none⟩ = some (.slice A0_6 l0_6.length c0_6) ∧ w'.cell? ⟨gb132, 7, none⟩ = some (.slice A0_7 l0_7.length c0_7)) (ds := []) (bz 7 0) (by kernel_rfl) rfl rfl ⟨(blk_cell BK132.out 0).trans rfl, (blk_cell BK132.out 1).trans rfl, (blk_cell BK132.out 2).trans rfl, (blk_cell BK132.out 3).trans rfl, (blk_cell BK132.out 4).trans rfl, (blk_cell BK132.out 5).trans rfl, (blk_cell BK132.out 6).trans rfl, (blk_cell BK132.out 7).trans rfl⟩ (fun hHeld => ?_)
    generalize w8.drew = w102 at HO1 BK132 HK HB hHeld ⊢
    refine pure_ (i := 0) (N := some 80) (v := ?_) (a' := ?_) (bz 7 1) rfl rfl (by kernel_rfl) (fun _ _ _ h => h) (Or.inl ⟨by rfl, ?_⟩) ?_ ?_
    rotate_left
    ·intro w'
     go_simp
     with_reducible rfl
    rotate_left
    ·simp only [Act.put, List.setIfInBounds_toArray, List.set_cons_zero, List.set_cons_succ, i64_w, i32_w]
     rfl
    refine pure_ (i := 2) (N := some 82) (v := ?_) (a' := ?_) (bz 7 5) rfl rfl (by kernel_rfl) (fun _ _ _ h => h) (Or.inl ⟨by rfl, ?_⟩) ?_ ?_
    rotate_left
    ·intro w'
     go_simp
     with_reducible rfl
    rotate_left
    ·simp only [Act.put, List.setIfInBounds_toArray, List.set_cons_zero, List.set_cons_succ, i64_w, i32_w]
     rfl
    refine take_ (i := 1) (N := some 81) (v := ?_) (a' := ?_) (bz 7 7) rfl rfl (by kernel_rfl) (fun _ _ _ h => h) (Or.inl ⟨by rfl, ?_⟩) hHeld ?_ ?_
    rotate_left
    ·rintro w' ⟨s0, s1, s2, s3, s4, s5, s6, s7⟩
     go_simp
     with_reducible rfl
    rotate_left
    ·simp only [Act.put, List.setIfInBounds_toArray, List.set_cons_zero, List.set_cons_succ, i64_w, i32_w]
     rfl
    refine one_ (i := 3) (N := some 83) (bz 7 15) rfl rfl (by kernel_rfl) (by decide) (fun K hK => ?_)
    refine value_ (w1 := ?_) (v := ?_) (by rfl) rfl ?_ ?_
    rotate_left 2
    ·go_simp
     constructor
     ·rfl
     ·rfl
    refine hK.out _ _ ⟨(blk_cell (blk_alloc BK132.out _) 0).trans rfl, (blk_cell (blk_alloc BK132.out _) 1).trans rfl, (blk_cell (blk_alloc BK132.out _) 2).trans rfl, (blk_cell (blk_alloc BK132.out _) 3).trans rfl, (blk_cell (blk_alloc BK132.out _) 4).trans rfl, (blk_cell (blk_alloc BK132.out _) 5).trans rfl, (blk_cell (blk_alloc BK132.out _) 6).trans rfl, (blk_cell (blk_alloc BK132.out _) 7).trans rfl⟩ (fun hHeld => ?_)
    clear hK K
    refine norm_ (a' := ?_) ?_ ?_
    rotate_left
    ·show Act.put _ (some 83) _ = _
     simp only [Act.put, List.setIfInBounds_toArray, List.set_cons_zero, List.set_cons_succ, i64_w, i32_w]
     rfl
    refine one_ (i := 4) (N := some 84) (bz 7 31) rfl rfl (by kernel_rfl) (by decide) (fun K hK => ?_)
    refine Kd.R_append_step Kd.string (w0 := w0) w0.heap.size (by rfl) (.tmp 82) (.tmp 83) 29 9 (.string ⟨#[]⟩) 16 rfl Tryz.underlying29 info9 rfl (by decide) (by omega) u39_ l1 (⟨#[112, 114, 105, 110, 116]⟩ : ByteArray) [.string (⟨#[112, 114, 105, 110, 116]⟩ : ByteArray)] (fun k_ => (P1_ k_ ∨ w.heap.size ≤ k_)) (fun _ => False) rfl rfl ?aP (fun _ hk => hk.elim) ?aF ?aO ?aB ?aS ?aL ?_
    (case aP => exact rfl)
    (case aB => exact ab7_)
    (case aF => exact (fun k_ hk => (.inr (Nat.le_trans (by first | exact HK.out.1 | exact (show Kept w _ (fun k_ => P1_ k_) from ab5_).1) hk))))
    (case aO => exact (aR_ HO1.out))
    (case aS => exact (below_size ab7_))
    (case aL => have := LMc97.out; omega)
    intro v195 w103 ho hb hg hat
    rw [← Ny192.out] at ho
    replace BK132 := am (blk_grown (g := gb132) (o := .cells #[.int .i64 a0_0, .int .i64 a0_1, .int .i64 a0_2, .int .i64 a0_3, .int .i64 a0_4, .slice A0_5 l0_5.length c0_5, .slice A0_6 l0_6.length c0_6, .slice A0_7 l0_7.length c0_7] 58 (0, 0)) (aG_ BK132.out) hg (Kd.R_ne HO1.out BK132.out (by decide)))
    replace HB := am (hb)
    replace HK := am (Kept.of_grown (S := (fun k_ => P1_ k_)) hg ab5_ (fun k_ e_ => (HO1.out.1 k_ e_)))
    have HO196 := am (ho)
    clear HO1
    clear ho hb hg hat
    obtain ⟨Ao197, co197, eo197⟩ := Kd.R_slice HO196.out
    (first | subst eo197 | (injection eo197 with f1_ f2_ f3_; have f4_ := f1_.symm; have f5_ := f3_.symm; clear f1_ f2_ f3_; subst f4_; subst f5_))
    refine hK.out _ _ ⟨(blk_cell BK132.out 0).trans rfl, (blk_cell BK132.out 1).trans rfl, (blk_cell BK132.out 2).trans rfl, (blk_cell BK132.out 3).trans rfl, (blk_cell BK132.out 4).trans rfl, (blk_cell BK132.out 5).trans rfl, (blk_cell BK132.out 6).trans rfl, (blk_cell BK132.out 7).trans rfl⟩ (fun hHeld => ?_)
    clear hK K
    refine norm_ (a' := ?_) ?_ ?_
    rotate_left
    ·show Act.put _ (some 84) _ = _
     simp only [Act.put, List.setIfInBounds_toArray, List.set_cons_zero, List.set_cons_succ, i64_w, i32_w]
     rfl
    refine one_ (i := 5) (N := some 85) (bz 7 63) rfl rfl (by kernel_rfl) (by decide) (fun K hK => ?_)
    refine goes_ Tryz.func65 (by kernel_rfl) rfl #[.agg #[.int .i64 a0_3, .int .i64 a0_4, .slice A0_5 l0_5.length c0_5], .slice Ao197 y192.length co197] (by rfl) rfl rfl ab1_ ?_
    with_reducible refine (impl_exprTokens.calls k a0_3 a0_4 _ _ l0_5 (fun k_ => some k_ = (.slice Ao197 y192.length co197 : Value).ownBlock) (.slice Ao197 y192.length co197) y192 t131 w0 _ ?side1 ?side2 HC0_5.out ?side4 ?sideT A98.out).mono ?_
    (case sideT => first | exact ht_ | exact Tab.below ht_ HB.out | exact Tab.below ht_ ab7_)
    (case side1 => exact ab7_)
    (case side2 => exact Kd.C_kept_call HR0_5.out ab5_ (fun k_ hs_ => (fun e_ => (HO196.out.1 k_ e_.symm)) hs_))
    (case side4 => exact Kd.R_tight rfl HO196.out)
    rintro e w105 ⟨v198, rfl, ho0, hb, hkp⟩
    refine ⟨_, rfl, ?_⟩
    replace BK132 := am (blk_kept (aG_ BK132.out) hkp (fun hs_ => (fun e_ => (Kd.R_ne HO196.out BK132.out (by decide)) e_) hs_))
    have HO199 := am (Kd.R_mono (ok' := fun k_ => (P1_ k_ ∨ w.heap.size ≤ k_)) ho0 (fun k_ hk_ => Or.elim hk_ (fun hs_ => (HO196.out.1 k_ (hs_).symm)) (fun hn_ => (.inr (Nat.le_trans (by first | exact HK.out.1 | exact (show Kept w _ (fun k_ => P1_ k_) from ab5_).1) hn_)))))
    replace HK := am (Kept.then_ (S := (fun k_ => P1_ k_)) ab5_ hkp (fun k_ hs_ => (fun e_ => (HO196.out.1 k_ e_.symm)) hs_))
    replace HB := am (hb)
    clear HO196
    (try clear hb)
    (try clear hkp)
    (try clear ho0)
    refine hK.out _ _ ⟨(blk_cell BK132.out 0).trans rfl, (blk_cell BK132.out 1).trans rfl, (blk_cell BK132.out 2).trans rfl, (blk_cell BK132.out 3).trans rfl, (blk_cell BK132.out 4).trans rfl, (blk_cell BK132.out 5).trans rfl, (blk_cell BK132.out 6).trans rfl, (blk_cell BK132.out 7).trans rfl⟩ (fun hHeld => ?_)
    clear hK K
    refine norm_ (a' := ?_) ?_ ?_
    rotate_left
    ·show Act.put _ (some 85) _ = _
     simp only [Act.put, List.setIfInBounds_toArray, List.set_cons_zero, List.set_cons_succ, i64_w, i32_w]
     rfl
    refine pure_ (i := 6) (N := some 1) (v := ?_) (a' := ?_) (bz 7 127) rfl rfl (by kernel_rfl) (fun _ _ _ h => h) (Or.inl ⟨by rfl, ?_⟩) ?_ ?_
    rotate_left
    ·intro w'
     go_simp
     with_reducible rfl
    rotate_left
    ·simp only [Act.put, List.setIfInBounds_toArray, List.set_cons_zero, List.set_cons_succ, i64_w, i32_w]
     rfl
    refine done_ (by kernel_rfl) ?_
    try go_wp2_with (first | ((with_reducible refine gate_builtin (b := .append) (xs := #[.tmp 86, .tmp 87]) rfl ?_); at_builtin; refine Kd.R_append Kd.string (w0 := w0) w0.heap.size rfl (.tmp 86) (.tmp 87) 29 9 (.string ⟨#[]⟩) 16 rfl Tryz.underlying29 info9 rfl (by decide) (by omega) v198 t131 (⟨#[59]⟩ : ByteArray) [.string (⟨#[59]⟩ : ByteArray)] (fun k_ => (P1_ k_ ∨ w.heap.size ≤ k_)) (fun _ => False) rfl rfl ?aP (fun _ hk => hk.elim) ?aF ?aO ?aB ?aS ?aL ?_; (case aP => exact rfl); (case aB => exact ab7_); (case aF => exact (fun k_ hk => (.inr (Nat.le_trans (by first | exact HK.out.1 | exact (show Kept w _ (fun k_ => P1_ k_) from ab5_).1) hk)))); (case aO => exact (aR_ HO199.out)); (case aS => exact (below_size ab7_)); (case aL => have := LMc99.out; omega); intro v201 w106 ho hb hg hat; rw [← Ny194.out] at ho; replace BK132 := am (blk_grown (g := gb132) (o := .cells #[.int .i64 a0_0, .int .i64 a0_1, .int .i64 a0_2, .int .i64 a0_3, .int .i64 a0_4, .slice A0_5 l0_5.length c0_5, .slice A0_6 l0_6.length c0_6, .slice A0_7 l0_7.length c0_7] 58 (0, 0)) (aG_ BK132.out) hg (Kd.R_ne HO199.out BK132.out (by decide))); replace HB := am (hb); replace HK := am (Kept.of_grown (S := (fun k_ => P1_ k_)) hg ab5_ (fun k_ e_ => (HO199.out.1 k_ e_))); have HO202 := am (ho); clear HO199 ho hb hg hat))
    go_ret
    exact ⟨_, ab13_, aRw_ HO202.out, ab7_, ab5_⟩
   rw [if_neg c99] at H
   exact absurd H (by simp)
  rw [if_neg c97] at H
  exact absurd H (by simp)
 rw [if_neg c96] at H
 have c96b0 : (a0_0 == 7) = false := beq_eq_false_iff_ne.mpr c96
 have c96b1 : (a0_0 != 7) = true := bne_iff_ne.mpr c96
 by_cases c203 : l1.length < 8796093022208
 ·rw [if_pos c203] at H
  have LMc107 := am c203
  clear c203
  obtain ⟨y204, hy_⟩ : ∃ y_ : List ByteArray, y_ = (l1 ++ [(⟨#[59]⟩ : ByteArray)]) := ⟨_, rfl⟩
  replace H : (some y204) = some r := rx_
  have Ny204 := am hy_
  clear hy_
  obtain rfl := Option.some.inj H
  go_wp2_with (first | ((with_reducible refine gate_builtin (b := .append) (xs := #[.tmp 86, .tmp 87]) rfl ?_); at_builtin; refine Kd.R_append Kd.string (w0 := w0) w0.heap.size rfl (.tmp 86) (.tmp 87) 29 9 (.string ⟨#[]⟩) 16 rfl Tryz.underlying29 info9 rfl (by decide) (by omega) u39_ l1 (⟨#[59]⟩ : ByteArray) [.string (⟨#[59]⟩ : ByteArray)] (fun k_ => (P1_ k_ ∨ w.heap.size ≤ k_)) (fun _ => False) rfl rfl ?aP (fun _ hk => hk.elim) ?aF ?aO ?aB ?aS ?aL ?_; (case aP => exact rfl); (case aB => exact ab7_); (case aF => exact (fun k_ hk => (.inr (Nat.le_trans (by first | exact HK.out.1 | exact (show Kept w _ (fun k_ => P1_ k_) from ab5_).1) hk)))); (case aO => exact (aR_ HO1.out)); (case aS => exact (below_size ab7_)); (case aL => have := LMc107.out; omega); intro v205 w110 ho hb hg hat; rw [← Ny204.out] at ho; replace BK132 := am (blk_grown (g := gb132) (o := .cells #[.int .i64 a0_0, .int .i64 a0_1, .int .i64 a0_2, .int .i64 a0_3, .int .i64 a0_4, .slice A0_5 l0_5.length c0_5, .slice A0_6 l0_6.length c0_6, .slice A0_7 l0_7.length c0_7] 58 (0, 0)) (aG_ BK132.out) hg (Kd.R_ne HO1.out BK132.out (by decide))); replace HB := am (hb); replace HK := am (Kept.of_grown (S := (fun k_ => P1_ k_)) hg ab5_ (fun k_ e_ => (HO1.out.1 k_ e_))); have HO206 := am (ho); clear HO1 ho hb hg hat))
  go_ret
  exact ⟨_, ab13_, aRw_ HO206.out, ab7_, ab5_⟩
 rw [if_neg c203] at H
 exact absurd H (by simp)
theorem impl_blockTokens.foot_T58_5 {w Wn : World} {S : Nat → Prop} {A : Option Addr} {n : Nat} {xs : List S58} (h : ∀ W_, Kept w W_ S → Kd.C k58 W_ A n xs) (hk : Kept w Wn S) (i : Int) (h0 : 0 ≤ i) (h1 : i < n) {ad : Addr} {A5 : Option Addr} {c5 : Nat} (e : A = some ad) (hc : Wn.cell? ⟨(ad.add (i.toNat * 8)).block, (ad.add (i.toNat * 8)).off + 5, none⟩ = some (.slice A5 (rd_T58 xs i).f3.f2.length c5)) : ∀ W_, Kept w W_ S → k56.C W_ A5 (rd_T58 xs i).f3.f2.length (rd_T58 xs i).f3.f2 := by
 intro W_ hW
 subst e
 have hne : ¬ S ad.block := Kd.foot_neS h (by omega) (by decide)
 have hlt : ad.block < w.heap.size := Kd.foot_ltS h (by omega) (by decide)
 obtain ⟨ad', A5q, c5q, A6q, c6q, A7q, c7q, e', _, _, _, _, _, X5, X6, X7, _, I5, _, I6, _, I7⟩ := at_T58 (h W_ hW) i h0 h1
 injection e' with e'
 subst e'
 have hb : W_.heap[ad.block]? = Wn.heap[ad.block]? := (hW.2 _ hlt hne).trans (hk.2 _ hlt hne).symm
 have hcc : ∀ a : Addr, a.block = ad.block → W_.cell? a = Wn.cell? a := by
  intro a ha
  unfold World.cell?
  rw [ha, hb]
 have h2 := (hcc ⟨(ad.add (i.toNat * 8)).block, (ad.add (i.toNat * 8)).off + 5, none⟩ (by show (ad.add _).block = ad.block; unfold Addr.add; split <;> rfl)).trans hc
 rw [X5] at h2
 injection h2 with h2
 injection h2 with h2 h3 h4
 subst h2
 exact I5
theorem impl_blockTokens.foot_T58_6 {w Wn : World} {S : Nat → Prop} {A : Option Addr} {n : Nat} {xs : List S58} (h : ∀ W_, Kept w W_ S → Kd.C k58 W_ A n xs) (hk : Kept w Wn S) (i : Int) (h0 : 0 ≤ i) (h1 : i < n) {ad : Addr} {A6 : Option Addr} {c6 : Nat} (e : A = some ad) (hc : Wn.cell? ⟨(ad.add (i.toNat * 8)).block, (ad.add (i.toNat * 8)).off + 6, none⟩ = some (.slice A6 (rd_T58 xs i).f4.length c6)) : ∀ W_, Kept w W_ S → k58.C W_ A6 (rd_T58 xs i).f4.length (rd_T58 xs i).f4 := by
 intro W_ hW
 subst e
 have hne : ¬ S ad.block := Kd.foot_neS h (by omega) (by decide)
 have hlt : ad.block < w.heap.size := Kd.foot_ltS h (by omega) (by decide)
 obtain ⟨ad', A5q, c5q, A6q, c6q, A7q, c7q, e', _, _, _, _, _, X5, X6, X7, _, I5, _, I6, _, I7⟩ := at_T58 (h W_ hW) i h0 h1
 injection e' with e'
 subst e'
 have hb : W_.heap[ad.block]? = Wn.heap[ad.block]? := (hW.2 _ hlt hne).trans (hk.2 _ hlt hne).symm
 have hcc : ∀ a : Addr, a.block = ad.block → W_.cell? a = Wn.cell? a := by
  intro a ha
  unfold World.cell?
  rw [ha, hb]
 have h2 := (hcc ⟨(ad.add (i.toNat * 8)).block, (ad.add (i.toNat * 8)).off + 6, none⟩ (by show (ad.add _).block = ad.block; unfold Addr.add; split <;> rfl)).trans hc
 rw [X6] at h2
 injection h2 with h2
 injection h2 with h2 h3 h4
 subst h2
 exact I6
theorem impl_blockTokens.foot_T58_7 {w Wn : World} {S : Nat → Prop} {A : Option Addr} {n : Nat} {xs : List S58} (h : ∀ W_, Kept w W_ S → Kd.C k58 W_ A n xs) (hk : Kept w Wn S) (i : Int) (h0 : 0 ≤ i) (h1 : i < n) {ad : Addr} {A7 : Option Addr} {c7 : Nat} (e : A = some ad) (hc : Wn.cell? ⟨(ad.add (i.toNat * 8)).block, (ad.add (i.toNat * 8)).off + 7, none⟩ = some (.slice A7 (rd_T58 xs i).f5.length c7)) : ∀ W_, Kept w W_ S → k58.C W_ A7 (rd_T58 xs i).f5.length (rd_T58 xs i).f5 := by
 intro W_ hW
 subst e
 have hne : ¬ S ad.block := Kd.foot_neS h (by omega) (by decide)
 have hlt : ad.block < w.heap.size := Kd.foot_ltS h (by omega) (by decide)
 obtain ⟨ad', A5q, c5q, A6q, c6q, A7q, c7q, e', _, _, _, _, _, X5, X6, X7, _, I5, _, I6, _, I7⟩ := at_T58 (h W_ hW) i h0 h1
 injection e' with e'
 subst e'
 have hb : W_.heap[ad.block]? = Wn.heap[ad.block]? := (hW.2 _ hlt hne).trans (hk.2 _ hlt hne).symm
 have hcc : ∀ a : Addr, a.block = ad.block → W_.cell? a = Wn.cell? a := by
  intro a ha
  unfold World.cell?
  rw [ha, hb]
 have h2 := (hcc ⟨(ad.add (i.toNat * 8)).block, (ad.add (i.toNat * 8)).off + 7, none⟩ (by show (ad.add _).block = ad.block; unfold Addr.add; split <;> rfl)).trans hc
 rw [X7] at h2
 injection h2 with h2
 injection h2 with h2 h3 h4
 subst h2
 exact I7
theorem impl_blockTokens.step (k : Nat) (ih_impl_stmtTokens : ∀ m, m < k → impl_stmtTokens.CallsAt m) (ih_impl_blockTokens : ∀ m, m < k → impl_blockTokens.CallsAt m) : impl_blockTokens.CallsAt k := by
 intro A0 c0 l0 P1_ u22_ l1 r w0 w hB hr0 hc0 ho1 ht_ h
 cases k with
 | zero => exact absurd h (by simp [impl_blockTokens.f])
 | succ k =>
 simp only [impl_blockTokens.f] at h
 have hu58 := Tryz.underlying58
 have HR0 := am hr0
 have HC0 := am hc0
 clear hr0 hc0
 have HO1 := am (show Kd.R Kd.string 9 w w0.heap.size (fun k_ => (P1_ k_ ∨ w.heap.size ≤ k_)) u22_ l1 from Kd.R_mono ho1 (fun k_ hk => (.inl hk)))
 have HK := am (Kept.refl w (fun k_ => P1_ k_))
 have HW0 := am hB.size
 have HB := am hB
 clear hB
 have H : (if l1.length < 8796093022208 then (impl_blockTokens.l0 k (l1 ++ [(⟨#[123]⟩ : ByteArray)]) l0 (l0.length : Int) 0) else (none)) = some r := h
 clear h
 by_cases c3 : l1.length < 8796093022208
 ·rw [if_pos c3] at H
  have LMc3 := am c3
  clear c3
  obtain ⟨y23, hy_⟩ : ∃ y_ : List ByteArray, y_ = (l1 ++ [(⟨#[123]⟩ : ByteArray)]) := ⟨_, rfl⟩
  replace H : (impl_blockTokens.l0 k y23 l0 (l0.length : Int) 0) = some r := rx_
  have Ny23 := am hy_
  clear hy_
  have H' := am H
  clear H
  go_enter Tryz.func21, Tryz.ntmps21
  go_wp2_with (first | ((with_reducible refine gate_builtin (b := .append) (xs := #[.tmp 7, .tmp 8]) rfl ?_); at_builtin; refine Kd.R_append Kd.string (w0 := w0) w0.heap.size rfl (.tmp 7) (.tmp 8) 29 9 (.string ⟨#[]⟩) 16 rfl Tryz.underlying29 info9 rfl (by decide) (by omega) u22_ l1 (⟨#[123]⟩ : ByteArray) [.string (⟨#[123]⟩ : ByteArray)] (fun k_ => (P1_ k_ ∨ w.heap.size ≤ k_)) (fun _ => False) rfl rfl ?aP (fun _ hk => hk.elim) ?aF ?aO ?aB ?aS ?aL ?_; (case aP => exact rfl); (case aB => exact ab2_); (case aF => exact (fun k_ hk => (.inr (Nat.le_trans (by first | exact HK.out.1 | exact (show Kept w _ (fun k_ => P1_ k_) from ab36_).1) hk)))); (case aO => exact (aR_ HO1.out)); (case aS => exact (below_size ab2_)); (case aL => have := LMc3.out; omega); intro v24 w4 ho hb hg hat; rw [← Ny23.out] at ho; replace HB := am (hb); replace HK := am (Kept.of_grown (S := (fun k_ => P1_ k_)) hg ab36_ (fun k_ e_ => (HO1.out.1 k_ e_))); have HO25 := am (ho); clear HO1 ho hb hg hat))
  go_loopg [1, 12] k (fun kq v1 v12 w' => ∃ (x1_1 : List ByteArray) (x12_1 : Int), v12 = .int .i64 x12_1 ∧ Aside0 (impl_blockTokens.l0 kq x1_1 l0 (l0.length : Int) x12_1 = some r) ∧ Aside0 (kq ≤ k) ∧ Aside0 (Kd.R Kd.string 9 w' w0.heap.size (fun k_ => (P1_ k_ ∨ w.heap.size ≤ k_)) v1 x1_1) ∧ Aside0 (Kept w w' (fun k_ => P1_ k_)) ∧ Aside0 (Below w0.heap.size w0 w'))
  case atStart => exact ⟨(y23), (0), sd_, H', ⟨Nat.le_refl _⟩, ⟨aRw_ HO25.out⟩, ⟨ab36_⟩, ⟨ab2_⟩⟩
  case round =>
   clear H'
   try clear c3
   obtain ⟨x1_1, x12_1, rfl, HA, HK1, HO_1, HK, HB⟩ := hrel
   cases gk with
   | zero => exact absurd HA.out (by simp [impl_blockTokens.l0])
   | succ k1 =>
    have H := HA.out
    clear HA
    simp only [impl_blockTokens.l0] at H
    by_cases c5 : x12_1 < (l0.length : Int)
    ·rw [if_pos c5] at H
     have c5b0 : decide (x12_1 < (l0.length : Int)) = true := decide_eq_true c5
     clear c5
     by_cases c6 : 0 ≤ x12_1
     ·rw [if_pos c6] at H
      have c6b0 : decide (0 ≤ x12_1) = true := decide_eq_true c6
      clear c6
      by_cases c7 : x12_1 < (l0.length : Int)
      ·rw [if_pos c7] at H
       have c7b0 : decide (x12_1 < (l0.length : Int)) = true := decide_eq_true c7
       clear c7
       obtain ⟨t26, A8, H⟩ := bsa H
       (try dsimp only at H)
       have H' := am H
       clear H
       have p27 : 0 ≤ (x12_1 : Int) := of_decide_eq_true asm_
       have q27 : x12_1 < (l0.length : Int) := of_decide_eq_true asm_
       obtain ⟨ad27, A27_5, c27_5, A27_6, c27_6, A27_7, c27_7, e27, hx27_0, hx27_1, hx27_2, hx27_3, hx27_4, hx27_5, hx27_6, hx27_7, hl27_5, hi27_5, hl27_6, hi27_6, hl27_7, hi27_7⟩ := at_T58 (Kd.C_kept_now HR0.out HK.out) x12_1 p27 q27
       have HF689_5 := am (impl_blockTokens.foot_T58_5 HR0.out HK.out x12_1 p27 q27 e27 hx27_5)
       have HF689_6 := am (impl_blockTokens.foot_T58_6 HR0.out HK.out x12_1 p27 q27 e27 hx27_6)
       have HF689_7 := am (impl_blockTokens.foot_T58_7 HR0.out HK.out x12_1 p27 q27 e27 hx27_7)
       cases e27
       have HR27_5 := am hi27_5
       have HC27_5 := am hl27_5
       clear hi27_5 hl27_5
       have HR27_6 := am hi27_6
       have HC27_6 := am hl27_6
       clear hi27_6 hl27_6
       have HR27_7 := am hi27_7
       have HC27_7 := am hl27_7
       clear hi27_7 hl27_7
       replace p27 := eq_true p27
       replace q27 := eq_true q27
       obtain ⟨Ao9, co9, eo9⟩ := Kd.R_slice HO_1.out
       subst eo9
       go_wp2_with (first | ((with_reducible refine gate_callee (f := 42) rfl ?_); refine gl_ 18 Tryz.func42 #[.agg #[.int .i64 ((rd_T58 l0 x12_1).f0), .int .i64 ((rd_T58 l0 x12_1).f1), .int .i64 ((rd_T58 l0 x12_1).f2), .int .i64 ((rd_T58 l0 x12_1).f3.f0), .int .i64 ((rd_T58 l0 x12_1).f3.f1), .slice A27_5 ((rd_T58 l0 x12_1).f3.f2).length c27_5, .slice A27_6 ((rd_T58 l0 x12_1).f4).length c27_6, .slice A27_7 ((rd_T58 l0 x12_1).f5).length c27_7], .slice Ao9 x1_1.length co9] ?_; (with_reducible refine (ih_impl_stmtTokens k1 (by have := HK1.out; omega) ((rd_T58 l0 x12_1).f0) ((rd_T58 l0 x12_1).f1) ((rd_T58 l0 x12_1).f2) ((rd_T58 l0 x12_1).f3.f0) ((rd_T58 l0 x12_1).f3.f1) _ _ ((rd_T58 l0 x12_1).f3.f2) _ _ ((rd_T58 l0 x12_1).f4) _ _ ((rd_T58 l0 x12_1).f5) (fun k_ => some k_ = (.slice Ao9 x1_1.length co9 : Value).ownBlock) (.slice Ao9 x1_1.length co9) x1_1 t26 w0 _ ?side1 ?side2 HC27_5.out ?side4 HC27_6.out ?side6 HC27_7.out ?side8 ?sideT A8.out).mono ?_); (case sideT => first | exact ht_ | exact Tab.below ht_ HB.out | exact Tab.below ht_ ab2_); (case side1 => exact ab2_); (case side2 => exact Kd.C_kept_call HF689_5.out ab36_ (fun k_ hs_ => (fun e_ => (HO_1.out.1 k_ e_.symm)) hs_)); (case side4 => exact Kd.C_kept_call HF689_6.out ab36_ (fun k_ hs_ => (fun e_ => (HO_1.out.1 k_ e_.symm)) hs_)); (case side6 => exact Kd.C_kept_call HF689_7.out ab36_ (fun k_ hs_ => (fun e_ => (HO_1.out.1 k_ e_.symm)) hs_)); (case side8 => exact Kd.R_tight rfl (aR_ HO_1.out)); rintro e w10 ⟨v28, rfl, ho0, hb, hkp⟩; refine ⟨_, rfl, ?_⟩; have HO30 := am (Kd.R_mono (ok' := fun k_ => (P1_ k_ ∨ w.heap.size ≤ k_)) ho0 (fun k_ hk_ => Or.elim hk_ (fun hs_ => (HO_1.out.1 k_ (hs_).symm)) (fun hn_ => (.inr (Nat.le_trans (by first | exact HK.out.1 | exact (show Kept w _ (fun k_ => P1_ k_) from ab36_).1) hn_))))); replace HK := am (Kept.then_ (S := (fun k_ => P1_ k_)) ab36_ hkp (fun k_ hs_ => (fun e_ => (HO_1.out.1 k_ e_.symm)) hs_)); replace HB := am (hb); clear HO_1; (try clear hb); (try clear hkp); (try clear ho0)))
       go_roundg k1
       case measure => have := HK1.out; omega
       case rel => exact ⟨(t26), (wrap64 (x12_1 + 1)), sd_, H', ⟨by have := HK1.out; omega⟩, ⟨aRw_ HO30.out⟩, ⟨ab36_⟩, ⟨ab2_⟩⟩
      rw [if_neg c7] at H
      exact absurd H (by simp)
     rw [if_neg c6] at H
     exact absurd H (by simp)
    rw [if_neg c5] at H
    have c5b0 : decide (x12_1 < (l0.length : Int)) = false := decide_eq_false c5
    clear c5
    by_cases c11 : x1_1.length < 8796093022208
    ·rw [if_pos c11] at H
     have LMc11 := am c11
     clear c11
     obtain ⟨y31, hy_⟩ : ∃ y_ : List ByteArray, y_ = (x1_1 ++ [(⟨#[125]⟩ : ByteArray)]) := ⟨_, rfl⟩
     replace H : (some y31) = some r := rx_
     have Ny31 := am hy_
     clear hy_
     obtain rfl := Option.some.inj H
     go_wp2_with (first | ((with_reducible refine gate_builtin (b := .append) (xs := #[.tmp 20, .tmp 21]) rfl ?_); at_builtin; refine Kd.R_append Kd.string (w0 := w0) w0.heap.size rfl (.tmp 20) (.tmp 21) 29 9 (.string ⟨#[]⟩) 16 rfl Tryz.underlying29 info9 rfl (by decide) (by omega) u1 x1_1 (⟨#[125]⟩ : ByteArray) [.string (⟨#[125]⟩ : ByteArray)] (fun k_ => (P1_ k_ ∨ w.heap.size ≤ k_)) (fun _ => False) rfl rfl ?aP (fun _ hk => hk.elim) ?aF ?aO ?aB ?aS ?aL ?_; (case aP => exact rfl); (case aB => exact ab2_); (case aF => exact (fun k_ hk => (.inr (Nat.le_trans (by first | exact HK.out.1 | exact (show Kept w _ (fun k_ => P1_ k_) from ab36_).1) hk)))); (case aO => exact (aR_ HO_1.out)); (case aS => exact (below_size ab2_)); (case aL => have := LMc11.out; omega); intro v32 w12 ho hb hg hat; rw [← Ny31.out] at ho; replace HB := am (hb); replace HK := am (Kept.of_grown (S := (fun k_ => P1_ k_)) hg ab36_ (fun k_ e_ => (HO_1.out.1 k_ e_))); have HO33 := am (ho); clear HO_1 ho hb hg hat))
     go_ret
     exact ⟨_, ab13_, aRw_ HO33.out, ab2_, ab36_⟩
    rw [if_neg c11] at H
    exact absurd H (by simp)
 rw [if_neg c3] at H
 exact absurd H (by simp)
theorem impl_stmtTokens.calls_all (k : Nat) : impl_stmtTokens.CallsAt k ∧ impl_blockTokens.CallsAt k := by
 induction k using Nat.strongRecOn with
 | _ k ih => exact ⟨impl_stmtTokens.step k (ih_impl_stmtTokens := fun m hm => (ih m hm).1) (ih_impl_blockTokens := fun m hm => (ih m hm).2), impl_blockTokens.step k (ih_impl_stmtTokens := fun m hm => (ih m hm).1) (ih_impl_blockTokens := fun m hm => (ih m hm).2)⟩
theorem impl_stmtTokens.calls (k : Nat) : impl_stmtTokens.CallsAt k := (impl_stmtTokens.calls_all k).1
theorem impl_blockTokens.calls (k : Nat) : impl_blockTokens.CallsAt k := (impl_stmtTokens.calls_all k).2
theorem impl_isDigit.calls (a0 : Int) (r : Bool) (w : World) (h : impl_isDigit.f a0 = some r) :
  Calls Tryz.prog 51 #[.int .u8 a0] w fun e w' => e = .returned (.bool r) ∧ Drawn0 w w' := by
 have H : (if a0 ≥ 48 then (some (decide (a0 ≤ 57))) else (some false)) = some r := h
 clear h
 by_cases c2 : a0 ≥ 48
 ·rw [if_pos c2] at H
  have c2b0 : decide (48 ≤ a0) = true := decide_eq_true c2
  clear c2
  obtain rfl := Option.some.inj H
  go_enter Tryz.func51, Tryz.ntmps51
  go_wp2
  go_ret
  exact ⟨sd_, ab18_⟩
 rw [if_neg c2] at H
 have c2b0 : decide (48 ≤ a0) = false := decide_eq_false c2
 clear c2
 obtain rfl := Option.some.inj H
 go_enter Tryz.func51, Tryz.ntmps51
 go_wp2
 go_ret
 exact ⟨sd_, ab18_⟩
theorem impl_isLetter.calls (a0 : Int) (r : Bool) (w : World) (h : impl_isLetter.f a0 = some r) :
  Calls Tryz.prog 52 #[.int .u8 a0] w fun e w' => e = .returned (.bool r) ∧ Drawn0 w w' := by
 have H : (if a0 ≥ 97 then (some (decide (a0 ≤ 122))) else (some false)) = some r := h
 clear h
 by_cases c2 : a0 ≥ 97
 ·rw [if_pos c2] at H
  have c2b0 : decide (97 ≤ a0) = true := decide_eq_true c2
  clear c2
  obtain rfl := Option.some.inj H
  go_enter Tryz.func52, Tryz.ntmps52
  go_wp2
  go_ret
  exact ⟨sd_, ab18_⟩
 rw [if_neg c2] at H
 have c2b0 : decide (97 ≤ a0) = false := decide_eq_false c2
 clear c2
 obtain rfl := Option.some.inj H
 go_enter Tryz.func52, Tryz.ntmps52
 go_wp2
 go_ret
 exact ⟨sd_, ab18_⟩
theorem stringslite_HasPrefix.calls (a0 : ByteArray) (a1 : ByteArray) (r : Bool) (w : World) (h : stringslite_HasPrefix.f a0 a1 = some r) :
  Calls Tryz.prog 76 #[.string a0, .string a1] w fun e w' => e = .returned (.bool r) ∧ Drawn0 w w' := by
 have H : (if (a0.size : Int) ≥ (a1.size : Int) then (if 0 ≤ (a1.size : Int) then (if (a1.size : Int) ≤ (a0.size : Int) then (some ((a0.extract 0 ((a1.size : Int) : Int).toNat).toList == a1.toList)) else (none)) else (none)) else (some false)) = some r := h
 clear h
 by_cases c3 : (a0.size : Int) ≥ (a1.size : Int)
 ·rw [if_pos c3] at H
  have c3b0 : decide ((a1.size : Int) ≤ (a0.size : Int)) = true := decide_eq_true c3
  have c3b1 : decide (a1.size ≤ a0.size) = true := decide_eq_true (Int.ofNat_le.mp c3)
  clear c3
  by_cases c4 : 0 ≤ (a1.size : Int)
  ·rw [if_pos c4] at H
   have c4b0 := eq_true c4
   have c4b1 : decide (0 ≤ (a1.size : Int)) = true := decide_eq_true c4
   clear c4
   by_cases c5 : (a1.size : Int) ≤ (a0.size : Int)
   ·rw [if_pos c5] at H
    have c5b0 := eq_true c5
    have c5b1 : decide ((a1.size : Int) ≤ (a0.size : Int)) = true := decide_eq_true c5
    clear c5
    obtain rfl := Option.some.inj H
    go_enter Tryz.func76, Tryz.ntmps76
    go_wp2
    go_ret
    exact ⟨sd_, ab18_⟩
   rw [if_neg c5] at H
   exact absurd H (by simp)
  rw [if_neg c4] at H
  exact absurd H (by simp)
 rw [if_neg c3] at H
 have c3b0 : decide ((a1.size : Int) ≤ (a0.size : Int)) = false := decide_eq_false c3
 have c3b1 : decide (a1.size ≤ a0.size) = false := decide_eq_false (fun h => c3 (Int.ofNat_le.mpr h))
 clear c3
 obtain rfl := Option.some.inj H
 go_enter Tryz.func76, Tryz.ntmps76
 go_wp2
 go_ret
 exact ⟨sd_, ab18_⟩
theorem strings_HasPrefix.calls (a0 : ByteArray) (a1 : ByteArray) (r : Bool) (w : World) (h : strings_HasPrefix.f a0 a1 = some r) :
  Calls Tryz.prog 53 #[.string a0, .string a1] w fun e w' => e = .returned (.bool r) ∧ Drawn0 w w' := by
 have H : ((stringslite_HasPrefix.f a0 a1).bind fun t20 => (some t20)) = some r := h
 clear h
 obtain ⟨t20, A3, H⟩ := bsa H
 (try dsimp only at H)
 obtain rfl := Option.some.inj H
 go_enter Tryz.func53, Tryz.ntmps53
 go_wp2_with (first | ((with_reducible refine gate_callee (f := 76) rfl ?_); refine gl_ 7 Tryz.func76 #[.string a0, .string a1] ?_; (with_reducible refine (stringslite_HasPrefix.calls a0 a1 t20 _ A3.out).mono ?_); rintro e w' ⟨rfl, ⟨nd, rfl⟩⟩; refine ⟨_, rfl, ?_⟩))
 go_ret
 exact ⟨sd_, ab18_⟩
theorem strings_IndexByte.calls (a0 : ByteArray) (a1 : Int) (r : Int) (w : World) (h : strings_IndexByte.f a0 a1 = some r) :
  Calls Tryz.prog 54 #[.string a0, .int .u8 a1] w fun e w' => e = .returned (.int .i64 r) ∧ Drawn0 w w' := by
 obtain rfl := Option.some.inj h
 refine (Tryz.strings_IndexByte a0 a1 w).mono ?_
 rintro e w' ⟨rfl, rfl⟩
 exact ⟨rfl, Drawn0.refl _⟩
theorem impl_tokenLength.mono_l : ∀ k a b c, LeO (impl_tokenLength.l1 k a b c) (impl_tokenLength.l1 (k + 1) a b c)
 | 0, _, _, _ => fun r h => by simp [impl_tokenLength.l1] at h
 | k + 1, a, b, c => by
  unfold impl_tokenLength.l1
  exact LeO.ite (LeO.ite (LeO.bind (LeO.refl _) (fun _ => LeO.ite (impl_tokenLength.mono_l k _ _ _) (LeO.refl _))) (LeO.none _)) (LeO.refl _)
theorem impl_tokenLength.mono : ∀ a0 k, LeO (impl_tokenLength.f k a0) (impl_tokenLength.f (k + 1) a0) := by
 intro a0 k
 exact LeO.bind (impl_tokenLength.mono_l _ _ _ _) (fun _ => LeO.ite (LeO.refl _) (LeO.bind (impl_tokenLength.mono_l _ _ _ _) (fun _ => LeO.refl _)))
theorem lit_run {P : Program} {ops : Array Oper} {Q : Exit → Act → World → Prop} {rest : List Oper} {o : Oper} {a : Act} {W : World} (N : Tmp) (cs : Array Value) (n : Nat) (e : TypeId) (hgd : o.guard = none) (hd : o.dst = some N)
  (hrun : (execOp a.eval o).run P W = .ok (.value (.slice (some ⟨W.heap.size, 0, none⟩) n n)) (W.alloc (.cells cs e)))
  (h : ∀ g W1, W1.heap[g]? = some (.cells cs e (0, 0)) → Below W.heap.size W W1 → wpList P ops Q rest (a.put (some N) (.slice (some ⟨g, 0, none⟩) n n)) W1) : wpList P ops Q (o :: rest) a W := by
 rw [← hd] at h
 exact Kd.event_run hgd hrun (h _ _ (blk_new W _) (below_alloc (Below.refl _ _) _))
theorem tl_nil (a : ByteArray) (h : a.size = 0) : a.toList = [] := by
 unfold ByteArray.toList
 unfold ByteArray.toList.loop
 rw [if_neg (by omega)]
 rfl
theorem impl_tokenLength.calls (k : Nat) (a0 : ByteArray) (r : Int) (w : World) (h : impl_tokenLength.f k a0 = some r) :
  Calls Tryz.prog 27 #[.string a0] w fun e w' => e = .returned (.int .i64 r) ∧ Below w.heap.size w w' := by
 have H' := am h
 clear h
 go_enter Tryz.func27, Tryz.ntmps27
 go_wp2_with (first | ((with_reducible refine gate_dst (N := 8) rfl ?_); refine lit_run 8 #[.func (.func 51) #[] #[], .func (.func 52) #[] #[]] 2 78 rfl rfl (by first | (go_simp; done) | (go_simp; rfl)) ?_; intro gb w1 hbk hb; have BK := am hbk; have HB := am (below_step (by repeat (first | exact Below.refl _ _ | apply pw_below_drewN | apply below_alloc)) hb); clear hbk hb))
 go_loopg [10] 2 (fun kq v10 w' => ∃ i : Nat, v10 = .int .i64 (i : Int) ∧ i + kq = 2 ∧ Aside0 (impl_tokenLength.st k a0 i = some r) ∧ Aside0 (w'.heap[gb]? = some (.cells #[.func (.func 51) #[] #[], .func (.func 52) #[] #[]] 78 (0, 0))) ∧ Aside0 (Below w.heap.size w w'))
 case atStart => exact ⟨0, rfl, rfl, H', BK, HB⟩
 case round =>
  clear H' BK HB
  obtain ⟨i, rfl, hi, HA, BK, HB⟩ := hrel
  have hc_ : (i = 0 ∧ gk = 2) ∨ (i = 1 ∧ gk = 1) ∨ (i = 2 ∧ gk = 0) := by omega
  clear hi
  rcases hc_ with ⟨rfl, rfl⟩ | ⟨rfl, rfl⟩ | ⟨rfl, rfl⟩
  ·have hx : _ := (blk_cell BK.out 0).trans rfl
   obtain ⟨d, hd, H⟩ := Option.bind_eq_some_iff.mp HA.out
   have HD := am hd
   have HN := am H
   clear hd H HA
   go_wp2
   go_loopg [5] k (fun kq v5 w' => ∃ x : Int, v5 = .int .i64 x ∧ Aside0 (impl_tokenLength.l1 kq a0 true x = some d) ∧ Aside0 (kq ≤ k) ∧ Aside0 (w'.heap[gb]? = some (.cells #[.func (.func 51) #[] #[], .func (.func 52) #[] #[]] 78 (0, 0))) ∧ Aside0 (Below w.heap.size w w'))
   case atStart => exact ⟨0, rfl, HD, ⟨Nat.le_refl _⟩, BK, HB⟩
   case round =>
    clear BK HB hx HD
    obtain ⟨x, rfl, HD, HK2, BK, HB⟩ := hrel
    cases gk with
    | zero => exact absurd HD.out (by simp [impl_tokenLength.l1])
    | succ k2 =>
     have H := HD.out
     clear HD
     simp only [impl_tokenLength.l1] at H
     by_cases c1 : x < (a0.size : Int)
     ·rw [if_pos c1] at H
      by_cases c2 : 0 ≤ x
      ·rw [if_pos c2] at H
       have H2 : (impl_isDigit.f (bt a0 x)).bind (fun b => if b = true then impl_tokenLength.l1 k2 a0 true (wrap64 (x + 1)) else some x) = some d := H
       obtain ⟨b, hb_, H3⟩ := Option.bind_eq_some_iff.mp H2
       have A1 := am hb_
       have H' := am H3
       clear H H2 H3 hb_
       have b1 : decide (x < (a0.size : Int)) = true := decide_eq_true c1
       have hx5 := bt_at a0 x
       have p5 := eq_true c2
       have q5 := eq_true c1
       clear c1 c2
       cases b with
       | true =>
        go_wp2_with (first | (go_at_call 51; (with_reducible refine (impl_isDigit.calls (bt a0 x) true _ A1.out).mono ?_); rintro e w1 ⟨rfl, ⟨nd, rfl⟩⟩) | fail)
        go_roundg k2
        case measure => have := HK2.out; omega
        case rel => exact ⟨wrap64 (x + 1), rfl, H', ⟨by have := HK2.out; omega⟩, ⟨by first | exact BK.out | exact blk_drewN BK.out _⟩, ⟨by first | exact HB.out | exact pw_below_drewN HB.out _⟩⟩
       | false =>
        have hd := Option.some.inj H'.out
        subst hd
        by_cases c3 : 0 < x
        ·have h3 := HN.out
         rw [if_pos c3] at h3
         obtain rfl := Option.some.inj h3
         have b3 : decide (0 < x) = true := decide_eq_true c3
         have b4 := eq_true c3
         clear h3
         go_wp2_with (first | (go_at_call 51; (with_reducible refine (impl_isDigit.calls (bt a0 x) false _ A1.out).mono ?_); rintro e w1 ⟨rfl, ⟨nd, rfl⟩⟩) | fail)
         go_ret
         exact ⟨rfl, by first | exact HB.out | exact pw_below_drewN HB.out _⟩
        have h3 := HN.out
        rw [if_neg c3] at h3
        have b3 : decide (0 < x) = false := decide_eq_false c3
        have b4 := eq_false c3
        have h3' := am h3
        clear h3
        go_wp2_with (first | (go_at_call 51; (with_reducible refine (impl_isDigit.calls (bt a0 x) false _ A1.out).mono ?_); rintro e w1 ⟨rfl, ⟨nd, rfl⟩⟩) | fail)
        go_roundg 1
        case measure => omega
        case rel => exact ⟨1, rfl, by omega, ⟨h3'.out⟩, ⟨by first | exact BK.out | exact blk_drewN BK.out _⟩, ⟨by first | exact HB.out | exact pw_below_drewN HB.out _⟩⟩
      rw [if_neg c2] at H
      exact absurd H (by simp)
     rw [if_neg c1] at H
     have hd := Option.some.inj H
     subst hd
     have b1 : decide (x < (a0.size : Int)) = false := decide_eq_false c1
     clear c1 H
     by_cases c3 : 0 < x
     ·have h3 := HN.out
      rw [if_pos c3] at h3
      obtain rfl := Option.some.inj h3
      have b3 : decide (0 < x) = true := decide_eq_true c3
      have b4 := eq_true c3
      clear h3
      go_wp2
      go_ret
      exact ⟨rfl, by first | exact HB.out | exact pw_below_drewN HB.out _⟩
     have h3 := HN.out
     rw [if_neg c3] at h3
     have b3 : decide (0 < x) = false := decide_eq_false c3
     have b4 := eq_false c3
     have h3' := am h3
     clear h3
     go_wp2
     go_roundg 1
     case measure => omega
     case rel => exact ⟨1, rfl, by omega, ⟨h3'.out⟩, ⟨by first | exact BK.out | exact blk_drewN BK.out _⟩, ⟨by first | exact HB.out | exact pw_below_drewN HB.out _⟩⟩
  ·have hx : _ := (blk_cell BK.out 1).trans rfl
   obtain ⟨d, hd, H⟩ := Option.bind_eq_some_iff.mp HA.out
   have HD := am hd
   have HN := am H
   clear hd H HA
   go_wp2
   go_loopg [5] k (fun kq v5 w' => ∃ x : Int, v5 = .int .i64 x ∧ Aside0 (impl_tokenLength.l1 kq a0 false x = some d) ∧ Aside0 (kq ≤ k) ∧ Aside0 (w'.heap[gb]? = some (.cells #[.func (.func 51) #[] #[], .func (.func 52) #[] #[]] 78 (0, 0))) ∧ Aside0 (Below w.heap.size w w'))
   case atStart => exact ⟨0, rfl, HD, ⟨Nat.le_refl _⟩, BK, HB⟩
   case round =>
    clear BK HB hx HD
    obtain ⟨x, rfl, HD, HK2, BK, HB⟩ := hrel
    cases gk with
    | zero => exact absurd HD.out (by simp [impl_tokenLength.l1])
    | succ k2 =>
     have H := HD.out
     clear HD
     simp only [impl_tokenLength.l1] at H
     by_cases c1 : x < (a0.size : Int)
     ·rw [if_pos c1] at H
      by_cases c2 : 0 ≤ x
      ·rw [if_pos c2] at H
       have H2 : (impl_isLetter.f (bt a0 x)).bind (fun b => if b = true then impl_tokenLength.l1 k2 a0 false (wrap64 (x + 1)) else some x) = some d := H
       obtain ⟨b, hb_, H3⟩ := Option.bind_eq_some_iff.mp H2
       have A1 := am hb_
       have H' := am H3
       clear H H2 H3 hb_
       have b1 : decide (x < (a0.size : Int)) = true := decide_eq_true c1
       have hx5 := bt_at a0 x
       have p5 := eq_true c2
       have q5 := eq_true c1
       clear c1 c2
       cases b with
       | true =>
        go_wp2_with (first | (go_at_call 52; (with_reducible refine (impl_isLetter.calls (bt a0 x) true _ A1.out).mono ?_); rintro e w1 ⟨rfl, ⟨nd, rfl⟩⟩) | fail)
        go_roundg k2
        case measure => have := HK2.out; omega
        case rel => exact ⟨wrap64 (x + 1), rfl, H', ⟨by have := HK2.out; omega⟩, ⟨by first | exact BK.out | exact blk_drewN BK.out _⟩, ⟨by first | exact HB.out | exact pw_below_drewN HB.out _⟩⟩
       | false =>
        have hd := Option.some.inj H'.out
        subst hd
        by_cases c3 : 0 < x
        ·have h3 := HN.out
         rw [if_pos c3] at h3
         obtain rfl := Option.some.inj h3
         have b3 : decide (0 < x) = true := decide_eq_true c3
         have b4 := eq_true c3
         clear h3
         go_wp2_with (first | (go_at_call 52; (with_reducible refine (impl_isLetter.calls (bt a0 x) false _ A1.out).mono ?_); rintro e w1 ⟨rfl, ⟨nd, rfl⟩⟩) | fail)
         go_ret
         exact ⟨rfl, by first | exact HB.out | exact pw_below_drewN HB.out _⟩
        have h3 := HN.out
        rw [if_neg c3] at h3
        have b3 : decide (0 < x) = false := decide_eq_false c3
        have b4 := eq_false c3
        have h3' := am h3
        clear h3
        go_wp2_with (first | (go_at_call 52; (with_reducible refine (impl_isLetter.calls (bt a0 x) false _ A1.out).mono ?_); rintro e w1 ⟨rfl, ⟨nd, rfl⟩⟩) | fail)
        go_roundg 0
        case measure => omega
        case rel => exact ⟨2, rfl, by omega, ⟨h3'.out⟩, ⟨by first | exact BK.out | exact blk_drewN BK.out _⟩, ⟨by first | exact HB.out | exact pw_below_drewN HB.out _⟩⟩
      rw [if_neg c2] at H
      exact absurd H (by simp)
     rw [if_neg c1] at H
     have hd := Option.some.inj H
     subst hd
     have b1 : decide (x < (a0.size : Int)) = false := decide_eq_false c1
     clear c1 H
     by_cases c3 : 0 < x
     ·have h3 := HN.out
      rw [if_pos c3] at h3
      obtain rfl := Option.some.inj h3
      have b3 : decide (0 < x) = true := decide_eq_true c3
      have b4 := eq_true c3
      clear h3
      go_wp2
      go_ret
      exact ⟨rfl, by first | exact HB.out | exact pw_below_drewN HB.out _⟩
     have h3 := HN.out
     rw [if_neg c3] at h3
     have b3 : decide (0 < x) = false := decide_eq_false c3
     have b4 := eq_false c3
     have h3' := am h3
     clear h3
     go_wp2
     go_roundg 0
     case measure => omega
     case rel => exact ⟨2, rfl, by omega, ⟨h3'.out⟩, ⟨by first | exact BK.out | exact blk_drewN BK.out _⟩, ⟨by first | exact HB.out | exact pw_below_drewN HB.out _⟩⟩
  ·have H2 : impl_tokenLength.st2 a0 0 = some r := HA.out
   have HS := am H2
   clear HA BK H2
   go_wp2_with (first | ((with_reducible refine gate_dst (N := 31) rfl ?_); refine lit_run 31 #[.string ⟨#[61, 61]⟩, .string ⟨#[60, 60]⟩, .string ⟨#[62, 62]⟩] 3 9 rfl rfl (by first | (go_simp; done) | (go_simp; rfl)) ?_; intro gc w1 hbk hb; have BK := am hbk; replace HB := am (below_step (by repeat (first | exact HB.out | apply pw_below_drewN | apply below_alloc)) hb); clear hbk hb))
   go_loopg [33] 3 (fun kq v33 w' => ∃ j : Nat, v33 = .int .i64 (j : Int) ∧ j + kq = 3 ∧ Aside0 (impl_tokenLength.st2 a0 j = some r) ∧ Aside0 (w'.heap[gc]? = some (.cells #[.string ⟨#[61, 61]⟩, .string ⟨#[60, 60]⟩, .string ⟨#[62, 62]⟩] 9 (0, 0))) ∧ Aside0 (Below w.heap.size w w'))
   case atStart => exact ⟨0, rfl, rfl, HS, BK, HB⟩
   case round =>
    clear HS BK HB
    obtain ⟨j, rfl, hj, HS, BK, HB⟩ := hrel
    have hc_ : (j = 0 ∧ gk = 3) ∨ (j = 1 ∧ gk = 2) ∨ (j = 2 ∧ gk = 1) ∨ (j = 3 ∧ gk = 0) := by omega
    clear hj
    rcases hc_ with ⟨rfl, rfl⟩ | ⟨rfl, rfl⟩ | ⟨rfl, rfl⟩ | ⟨rfl, rfl⟩
    ·have hx : _ := (blk_cell BK.out 0).trans rfl
     obtain ⟨b, hb_, H3⟩ := Option.bind_eq_some_iff.mp HS.out
     have A1 := am hb_
     have H' := am H3
     clear HS hb_ H3
     cases b with
     | true =>
      obtain rfl := Option.some.inj ((if_pos rfl).symm.trans H'.out)
      go_wp2_with (first | (go_at_call 53; (with_reducible refine (strings_HasPrefix.calls a0 ⟨#[61, 61]⟩ true _ A1.out).mono ?_); rintro e w1 ⟨rfl, ⟨nd, rfl⟩⟩) | fail)
      go_ret
      exact ⟨rfl, by first | exact HB.out | exact pw_below_drewN HB.out _⟩
     | false =>
      have h3 := (if_neg Bool.false_ne_true).symm.trans H'.out
      have H3' := am h3
      clear h3 H'
      go_wp2_with (first | (go_at_call 53; (with_reducible refine (strings_HasPrefix.calls a0 ⟨#[61, 61]⟩ false _ A1.out).mono ?_); rintro e w1 ⟨rfl, ⟨nd, rfl⟩⟩) | fail)
      go_roundg 2
      case measure => omega
      case rel => exact ⟨1, rfl, by omega, ⟨H3'.out⟩, ⟨by first | exact BK.out | exact blk_drewN BK.out _⟩, ⟨by first | exact HB.out | exact pw_below_drewN HB.out _⟩⟩
    ·have hx : _ := (blk_cell BK.out 1).trans rfl
     obtain ⟨b, hb_, H3⟩ := Option.bind_eq_some_iff.mp HS.out
     have A1 := am hb_
     have H' := am H3
     clear HS hb_ H3
     cases b with
     | true =>
      obtain rfl := Option.some.inj ((if_pos rfl).symm.trans H'.out)
      go_wp2_with (first | (go_at_call 53; (with_reducible refine (strings_HasPrefix.calls a0 ⟨#[60, 60]⟩ true _ A1.out).mono ?_); rintro e w1 ⟨rfl, ⟨nd, rfl⟩⟩) | fail)
      go_ret
      exact ⟨rfl, by first | exact HB.out | exact pw_below_drewN HB.out _⟩
     | false =>
      have h3 := (if_neg Bool.false_ne_true).symm.trans H'.out
      have H3' := am h3
      clear h3 H'
      go_wp2_with (first | (go_at_call 53; (with_reducible refine (strings_HasPrefix.calls a0 ⟨#[60, 60]⟩ false _ A1.out).mono ?_); rintro e w1 ⟨rfl, ⟨nd, rfl⟩⟩) | fail)
      go_roundg 1
      case measure => omega
      case rel => exact ⟨2, rfl, by omega, ⟨H3'.out⟩, ⟨by first | exact BK.out | exact blk_drewN BK.out _⟩, ⟨by first | exact HB.out | exact pw_below_drewN HB.out _⟩⟩
    ·have hx : _ := (blk_cell BK.out 2).trans rfl
     obtain ⟨b, hb_, H3⟩ := Option.bind_eq_some_iff.mp HS.out
     have A1 := am hb_
     have H' := am H3
     clear HS hb_ H3
     cases b with
     | true =>
      obtain rfl := Option.some.inj ((if_pos rfl).symm.trans H'.out)
      go_wp2_with (first | (go_at_call 53; (with_reducible refine (strings_HasPrefix.calls a0 ⟨#[62, 62]⟩ true _ A1.out).mono ?_); rintro e w1 ⟨rfl, ⟨nd, rfl⟩⟩) | fail)
      go_ret
      exact ⟨rfl, by first | exact HB.out | exact pw_below_drewN HB.out _⟩
     | false =>
      have h3 := (if_neg Bool.false_ne_true).symm.trans H'.out
      have H3' := am h3
      clear h3 H'
      go_wp2_with (first | (go_at_call 53; (with_reducible refine (strings_HasPrefix.calls a0 ⟨#[62, 62]⟩ false _ A1.out).mono ?_); rintro e w1 ⟨rfl, ⟨nd, rfl⟩⟩) | fail)
      go_roundg 0
      case measure => omega
      case rel => exact ⟨3, rfl, by omega, ⟨H3'.out⟩, ⟨by first | exact BK.out | exact blk_drewN BK.out _⟩, ⟨by first | exact HB.out | exact pw_below_drewN HB.out _⟩⟩
    ·have hf : impl_tokenLength.fin a0 = some r := HS.out
     clear HS BK
     unfold impl_tokenLength.fin at hf
     by_cases c2 : a0.toList = ([] : List UInt8)
     ·rw [if_pos c2] at hf
      obtain rfl := Option.some.inj hf
      have c2b0 : (a0.toList == ([] : List UInt8)) = true := beq_iff_eq.mpr c2
      have c2b1 : (a0.toList != ([] : List UInt8)) = false := bne_eq_false_iff_eq.mpr c2
      clear hf
      go_wp2
      go_ret
      exact ⟨rfl, by first | exact HB.out | exact pw_below_drewN HB.out _⟩
     rw [if_neg c2] at hf
     have c2b0 : (a0.toList == ([] : List UInt8)) = false := beq_eq_false_iff_ne.mpr c2
     have c2b1 : (a0.toList != ([] : List UInt8)) = true := bne_iff_ne.mpr c2
     have hsz : 0 < a0.size := by
      rcases Nat.eq_zero_or_pos a0.size with h0 | h0
      ·exact absurd (tl_nil a0 h0) c2
      ·exact h0
     have hx5 : ∀ h : 0 < a0.size, ((a0[0]'h).toNat : Int) = bt a0 0 := fun h => bt_at a0 0 h
     have p5 : (0 < a0.size) = True := eq_true hsz
     have p6 : ((0 : Int) < (a0.size : Int)) = True := eq_true (by omega)
     clear c2 hsz
     obtain ⟨j, hj, hf⟩ := Option.bind_eq_some_iff.mp hf
     have A1 := am hj
     by_cases c3 : 0 ≤ j
     ·rw [if_pos c3] at hf
      obtain rfl := Option.some.inj hf
      have b3 : decide (0 ≤ j) = true := decide_eq_true c3
      have b4 := eq_true c3
      clear hf hj c3
      go_wp2_with (first | (go_at_call 54; (with_reducible refine (strings_IndexByte.calls _ (bt a0 0) j _ A1.out).mono ?_); rintro e w1 ⟨rfl, ⟨nd, rfl⟩⟩) | fail)
      go_ret
      exact ⟨rfl, by first | exact HB.out | exact pw_below_drewN HB.out _⟩
     rw [if_neg c3] at hf
     obtain rfl := Option.some.inj hf
     have b3 : decide (0 ≤ j) = false := decide_eq_false c3
     have b4 := eq_false c3
     clear hf hj c3
     go_wp2_with (first | (go_at_call 54; (with_reducible refine (strings_IndexByte.calls _ (bt a0 0) j _ A1.out).mono ?_); rintro e w1 ⟨rfl, ⟨nd, rfl⟩⟩) | fail)
     go_ret
     exact ⟨rfl, by first | exact HB.out | exact pw_below_drewN HB.out _⟩
theorem impl_TokenValid.mono : ∀ a0 k, LeO (impl_TokenValid.f k a0) (impl_TokenValid.f (k + 1) a0) := by
 intro a0 k
 unfold impl_TokenValid.f
 have m0 := @impl_tokenLength.mono
 exact mo_
theorem impl_TokenValid.calls (k : Nat) (a0 : ByteArray) (r : Bool) (w : World) (h : impl_TokenValid.f k a0 = some r) :
  Calls Tryz.prog 43 #[.string a0] w fun e w' => e = .returned (.bool r) ∧ Below w.heap.size w w' := by
 have HB := am (Below.refl w.heap.size w)
 have H : (if a0.toList = ([] : List UInt8) then (some false) else ((impl_tokenLength.f k a0).bind fun t20 => (some (t20 == (a0.size : Int))))) = some r := h
 clear h
 by_cases c2 : a0.toList = ([] : List UInt8)
 ·rw [if_pos c2] at H
  have c2b0 : (a0.toList == ([] : List UInt8)) = true := beq_iff_eq.mpr c2
  have c2b1 : (a0.toList != ([] : List UInt8)) = false := bne_eq_false_iff_eq.mpr c2
  clear c2
  obtain rfl := Option.some.inj H
  go_enter Tryz.func43, Tryz.ntmps43
  go_wp2
  go_ret
  exact ⟨rr_, ab2_⟩
 rw [if_neg c2] at H
 have c2b0 : (a0.toList == ([] : List UInt8)) = false := beq_eq_false_iff_ne.mpr c2
 have c2b1 : (a0.toList != ([] : List UInt8)) = true := bne_iff_ne.mpr c2
 obtain ⟨t20, A3, H⟩ := bsa H
 (try dsimp only at H)
 obtain rfl := Option.some.inj H
 go_enter Tryz.func43, Tryz.ntmps43
 go_wp2_with (first | (go_at_call 27; (with_reducible refine (impl_tokenLength.calls k a0 t20 _ A3.out).mono ?_); rintro e w4 ⟨rfl, hb⟩; replace HB := am (below_step ab2_ hb); (try clear hb)))
 go_ret
 exact ⟨rr_, ab2_⟩
theorem strings_Join.calls (A0 : Option Addr) (c0 : Nat) (l0 : List ByteArray) (a1 : ByteArray) (r : ByteArray) (w : World) (hr0 : Kd.C Kd.string w A0 l0.length l0) (hc0 : l0.length ≤ c0) (h : strings_Join.f l0 a1 = some r) :
  Calls Tryz.prog 44 #[.slice A0 l0.length c0, .string a1] w fun e w' => e = .returned (.string r) ∧ Below w.heap.size w w' := by
 unfold strings_Join.f at h
 by_cases h1 : l0.length ≤ 140737488355328
 case neg => rw [if_neg h1] at h; cases h
 rw [if_pos h1] at h
 by_cases h2 : (joinB l0 a1).length ≤ 140737488355328
 case neg => rw [if_neg h2] at h; cases h
 rw [if_pos h2] at h
 obtain rfl := Option.some.inj h
 cases l0 with
 | nil =>
  refine (Tryz.strings_Join_none A0 c0 a1 w).mono ?_
  rintro e w' ⟨rfl, rfl⟩
  exact ⟨rfl, Below.refl _ _⟩
 | cons x xs =>
  obtain ⟨ad, rfl, hc⟩ := hr0.2.2 (by simp)
  have hcell : ∀ (j : Nat) y, (x :: xs)[j]? = some y → w.cell? (ad.add j) = some (.string y) := by
   intro j y hj
   obtain ⟨c, hcl, hK, hcc⟩ := hc j y hj
   have hK' : c = [.string y] := hK
   subst hK'
   have := hcc 0 _ rfl
   simpa [Kd.string, Kd.scalar] using this
  obtain ⟨b, o, s⟩ := ad
  have h0 := hcell 0 x rfl
  have hs : s = none := by
   cases s with
   | none => rfl
   | some v => simp [World.cell?, Addr.add] at h0; split at h0 <;> simp at h0
  subst hs
  have hlt := World.block_lt_of_cell? w _ h0
  refine (Tryz.strings_Join b o c0 (x :: xs) a1 w (fun j y hj => by have h_ := hcell j y hj; cases j <;> simpa [Addr.add] using h_) hlt h1 hc0 h2).mono ?_
  rintro e w' ⟨rfl, hb⟩
  exact ⟨rfl, hb⟩
theorem impl_TokensText.mono_l : ∀ k, (∀ y0 y1 y2 y3, LeO (impl_TokensText.l0 k y0 y1 y2 y3) (impl_TokensText.l0 (k + 1) y0 y1 y2 y3))
 | 0 => fun _ _ _ _ r h => by simp [impl_TokensText.l0] at h
 | k + 1 => by
  have ih0 := impl_TokensText.mono_l k
  ·intro y0 y1 y2 y3
   unfold impl_TokensText.l0
   have m0 := @impl_TokenValid.mono
   exact mo_
theorem impl_TokensText.mono : ∀ a0 k, LeO (impl_TokensText.f k a0) (impl_TokensText.f (k + 1) a0) := by
 intro a0 k
 have ih0 := impl_TokensText.mono_l k
 unfold impl_TokensText.f
 have m0 := @impl_TokenValid.mono
 exact mo_
theorem impl_TokensText.calls (k : Nat) (A0 : Option Addr) (c0 : Nat) (l0 : List ByteArray) (r : ByteArray) (w : World) (hr0 : Kd.C Kd.string w A0 l0.length l0) (hc0 : l0.length ≤ c0) (h : impl_TokensText.f k l0 = some r) :
  Calls Tryz.prog 22 #[.slice A0 l0.length c0] w fun e w' => e = .returned (.string r) ∧ Below w.heap.size w w' := by
 have HR0 := am hr0
 have HC0 := am hc0
 clear hr0 hc0
 have HB := am (Below.refl w.heap.size w)
 have H : (impl_TokensText.l0 k l0 l0 (l0.length : Int) 0) = some r := h
 clear h
 have H' := am H
 clear H
 go_enter Tryz.func22, Tryz.ntmps22
 go_wp2
 go_loopg [7] k (fun kq v7 w' => ∃ (x7_1 : Int), v7 = .int .i64 x7_1 ∧ Aside0 (impl_TokensText.l0 kq l0 l0 (l0.length : Int) x7_1 = some r) ∧ Aside0 (kq ≤ k) ∧ Aside0 (Below w.heap.size w w'))
 case atStart => exact ⟨(0), sd_, H', ⟨Nat.le_refl _⟩, ⟨ab2_⟩⟩
 case round =>
  clear H'
  obtain ⟨x7_1, rfl, HA, HK1, HB⟩ := hrel
  cases gk with
  | zero => exact absurd HA.out (by simp [impl_TokensText.l0])
  | succ k1 =>
   have H := HA.out
   clear HA
   simp only [impl_TokensText.l0] at H
   by_cases c2 : x7_1 < (l0.length : Int)
   ·rw [if_pos c2] at H
    have c2b0 : decide (x7_1 < (l0.length : Int)) = true := decide_eq_true c2
    clear c2
    by_cases c3 : 0 ≤ x7_1
    ·rw [if_pos c3] at H
     have c3b0 : decide (0 ≤ x7_1) = true := decide_eq_true c3
     clear c3
     by_cases c4 : x7_1 < (l0.length : Int)
     ·rw [if_pos c4] at H
      have c4b0 : decide (x7_1 < (l0.length : Int)) = true := decide_eq_true c4
      clear c4
      obtain ⟨t20, A5, H⟩ := bsa H
      (try dsimp only at H)
      by_cases c6 : t20 = true
      ·subst c6
       rw [if_pos rfl] at H
       have H' := am H
       clear H
       have p21 : 0 ≤ (x7_1 : Int) := of_decide_eq_true asm_
       have q21 : x7_1 < (l0.length : Int) := of_decide_eq_true asm_
       obtain ⟨ad21, e21, hx21_0⟩ := Kd.at_string HR0.out x7_1 p21 q21
       cases e21
       replace hx21_0 := (HB.out.cell (World.block_lt_of_cell? w _ hx21_0)).trans hx21_0
       replace p21 := eq_true p21
       replace q21 := eq_true q21
       go_wp2_with (first | ((with_reducible refine gate_callee (f := 43) rfl ?_); refine gl_ 12 Tryz.func43 #[.string (rdOf ByteArray.empty l0 x7_1)] ?_; (with_reducible refine (impl_TokenValid.calls k1 (rdOf ByteArray.empty l0 x7_1) true _ A5.out).mono ?_); rintro e w7 ⟨rfl, hb⟩; refine ⟨_, rfl, ?_⟩; replace HB := am (below_step ab2_ hb); (try clear hb)))
       go_roundg k1
       case measure => have := HK1.out; omega
       case rel => exact ⟨(wrap64 (x7_1 + 1)), sd_, H', ⟨by have := HK1.out; omega⟩, ⟨ab2_⟩⟩
      replace c6 := Bool.eq_false_iff.mpr c6
      subst c6
      rw [if_neg (show ¬ (false = true) by decide)] at H
      obtain rfl := Option.some.inj H
      have p21 : 0 ≤ (x7_1 : Int) := of_decide_eq_true asm_
      have q21 : x7_1 < (l0.length : Int) := of_decide_eq_true asm_
      obtain ⟨ad21, e21, hx21_0⟩ := Kd.at_string HR0.out x7_1 p21 q21
      cases e21
      replace hx21_0 := (HB.out.cell (World.block_lt_of_cell? w _ hx21_0)).trans hx21_0
      replace p21 := eq_true p21
      replace q21 := eq_true q21
      go_wp2_with (first | ((with_reducible refine gate_callee (f := 43) rfl ?_); refine gl_ 12 Tryz.func43 #[.string (rdOf ByteArray.empty l0 x7_1)] ?_; (with_reducible refine (impl_TokenValid.calls k1 (rdOf ByteArray.empty l0 x7_1) false _ A5.out).mono ?_); rintro e w8 ⟨rfl, hb⟩; refine ⟨_, rfl, ?_⟩; replace HB := am (below_step ab2_ hb); (try clear hb)))
      go_ret
      exact ⟨rr_, ab2_⟩
     rw [if_neg c4] at H
     exact absurd H (by simp)
    rw [if_neg c3] at H
    exact absurd H (by simp)
   rw [if_neg c2] at H
   have c2b0 : decide (x7_1 < (l0.length : Int)) = false := decide_eq_false c2
   clear c2
   obtain ⟨t23, A9, H⟩ := bsa H
   (try dsimp only at H)
   obtain rfl := Option.some.inj H
   go_wp2_with (first | ((with_reducible refine gate_callee (f := 44) rfl ?_); refine gl_ 16 Tryz.func44 #[.slice A0 l0.length c0, .string (⟨#[32]⟩ : ByteArray)] ?_; (with_reducible refine (strings_Join.calls _ _ l0 (⟨#[32]⟩ : ByteArray) t23 _ (aC_ (Kd.C_below HR0.out HB.out)) HC0.out A9.out).mono ?_); rintro e w10 ⟨rfl, hb⟩; refine ⟨_, rfl, ?_⟩; replace HB := am (below_step ab2_ hb); (try clear hb)))
   go_ret
   exact ⟨rr_, ab2_⟩
theorem impl_ProgramText.mono_l : ∀ k, (∀ y0 y1 y2 y3 y4 y5, LeO (impl_ProgramText.l0 k y0 y1 y2 y3 y4 y5) (impl_ProgramText.l0 (k + 1) y0 y1 y2 y3 y4 y5)) ∧ (∀ y0 y1 y2 y3, LeO (impl_ProgramText.l1 k y0 y1 y2 y3) (impl_ProgramText.l1 (k + 1) y0 y1 y2 y3))
 | 0 => ⟨fun _ _ _ _ _ _ r h => by simp [impl_ProgramText.l0] at h, fun _ _ _ _ r h => by simp [impl_ProgramText.l1] at h⟩
 | k + 1 => by
  obtain ⟨ih0, ih1⟩ := impl_ProgramText.mono_l k
  refine ⟨?_, ?_⟩
  ·intro y0 y1 y2 y3 y4 y5
   unfold impl_ProgramText.l0
   have m0 := @impl_ProgramValid.mono
   have m1 := @impl_TokensText.mono
   have m2 := @impl_blockTokens.mono
   exact mo_
  ·intro y0 y1 y2 y3
   unfold impl_ProgramText.l1
   have m0 := @impl_ProgramValid.mono
   have m1 := @impl_TokensText.mono
   have m2 := @impl_blockTokens.mono
   exact mo_
theorem impl_ProgramText.mono : ∀ a0 a1 k, LeO (impl_ProgramText.f k a0 a1) (impl_ProgramText.f (k + 1) a0 a1) := by
 intro a0 a1 k
 obtain ⟨ih0, ih1⟩ := impl_ProgramText.mono_l k
 unfold impl_ProgramText.f
 have m0 := @impl_ProgramValid.mono
 have m1 := @impl_TokensText.mono
 have m2 := @impl_blockTokens.mono
 exact mo_
theorem impl_ProgramText.calls (k : Nat) (A0_0 : Option Addr) (c0_0 : Nat) (l0_0 : List Int) (A0_1 : Option Addr) (c0_1 : Nat) (l0_1 : List (List (S58))) (r : ByteArray) (w : World) (hr0_0 : Kd.C (Kd.int .i64) w A0_0 l0_0.length l0_0) (hc0_0 : l0_0.length ≤ c0_0) (hr0_1 : Kd.C (Kd.slice 58 k58) w A0_1 l0_1.length l0_1) (hc0_1 : l0_1.length ≤ c0_1) (ht_ : Tab w) (h : impl_ProgramText.f k l0_0 l0_1 = some r) :
  Calls Tryz.prog 8 #[.agg #[.slice A0_0 l0_0.length c0_0, .slice A0_1 l0_1.length c0_1]] w fun e w' => e = .returned (.string r) ∧ Below w.heap.size w w' := by
 have hu26 := Tryz.underlying26
 have HR0_0 := am hr0_0
 have HC0_0 := am hc0_0
 clear hr0_0 hc0_0
 have HR0_1 := am hr0_1
 have HC0_1 := am hc0_1
 clear hr0_1 hc0_1
 have HB := am (Below.refl w.heap.size w)
 have H : ((impl_ProgramValid.f k l0_0 l0_1).bind fun t30 => (if t30 = true then (impl_ProgramText.l0 k ([] : List ByteArray) l0_0 (l0_0.length : Int) 0 l0_0 l0_1) else (some (⟨#[]⟩ : ByteArray)))) = some r := h
 clear h
 obtain ⟨t30, A2, H⟩ := bsa H
 (try dsimp only at H)
 have HH_ := am H
 clear H
 go_enter Tryz.func8, Tryz.ntmps8
 go_upto_region 1 with (first | ((with_reducible refine gate_dst (N := 1) rfl ?_); refine box_event rfl (N := 1) rfl (cs := #[.slice A0_0 l0_0.length c0_0, .slice A0_1 l0_1.length c0_1]) (t := 26) rn_ ?_; intro gb31 hg w4 hbox hb; have BK31 := am (hbox); have GW31 := am ((by rw [hg]; exact (below_size ab2_) : w.heap.size ≤ gb31)); have GE31 := am ((by rw [hg]; exact (below_size ab2_) : w.heap.size ≤ gb31)); replace HB := am (below_step ab2_ hb); clear hb hbox hg; obtain ⟨hcz5_0, hcz5_1, hfz5_0, hfz5_1⟩ := bcf2_ BK31.out))
 have H := HH_.out
 clear HH_
 by_cases c3 : t30 = true
 ·subst c3
  rw [if_pos rfl] at H
  have H' := am H
  clear H
  go_wp2_with (first | ((with_reducible refine gate_callee (f := 19) rfl ?_); refine gl_ 9 Tryz.func19 #[.agg #[.slice A0_0 l0_0.length c0_0, .slice A0_1 l0_1.length c0_1]] ?_; (with_reducible refine (impl_ProgramValid.calls k _ _ l0_0 _ _ l0_1 true _ (aC_ (Kd.C_below HR0_0.out HB.out)) HC0_0.out (aC_ (Kd.C_below HR0_1.out HB.out)) HC0_1.out A2.out).mono ?_); rintro e w6 ⟨rfl, hb⟩; refine ⟨_, rfl, ?_⟩; replace BK31 := am (bbl_ BK31.out hb); replace HB := am (below_step ab40_ hb); (try clear hb); obtain ⟨hcz7_0, hcz7_1, hfz7_0, hfz7_1⟩ := bcf2_ BK31.out))
  go_loopg [3, 14] k (fun kq v3 v14 w' => ∃ (x3_1 : List ByteArray) (x14_1 : Int), v14 = .int .i64 x14_1 ∧ Aside0 (impl_ProgramText.l0 kq x3_1 l0_0 (l0_0.length : Int) x14_1 l0_0 l0_1 = some r) ∧ Aside0 (kq ≤ k) ∧ Aside0 (Kd.R Kd.string 9 w' w.heap.size (fun _ => True) v3 x3_1) ∧ Aside0 (w'.heap[gb31]? = some (.cells #[(.slice A0_0 l0_0.length c0_0), (.slice A0_1 l0_1.length c0_1)] 26 (0, 0))) ∧ Aside0 (Below w.heap.size w w'))
  case atStart => exact ⟨(([] : List ByteArray)), (0), sd_, H', ⟨Nat.le_refl _⟩, ⟨by first | exact Kd.R_nil _ _ _ _ _ | exact Kd.N_nil _ _ _ _ _ | exact Kd.V_nil _ _ _ _ _ | exact Kd.Q_nil _ _ _ _ _ | exact Kd.S_nil _ _ _ _ _⟩, ⟨by (with_reducible repeat (first | refine blk_drewN ?_ _ | refine blk_drew ?_ | refine blk_alloc ?_ _)); exact BK31.out⟩, ⟨ab40_⟩⟩
  case round =>
   clear H'
   try clear c3
   try clear hcz5_0
   try clear hcz5_1
   try clear hcz7_0
   try clear hcz7_1
   try clear hfz5_0
   try clear hfz5_1
   try clear hfz7_0
   try clear hfz7_1
   obtain ⟨x3_1, x14_1, rfl, HA, HK1, HO_3, BK31, HB⟩ := hrel
   cases gk with
   | zero => exact absurd HA.out (by simp [impl_ProgramText.l0])
   | succ k1 =>
    have H := HA.out
    clear HA
    simp only [impl_ProgramText.l0] at H
    by_cases c8 : x14_1 < (l0_0.length : Int)
    ·rw [if_pos c8] at H
     have c8b0 : decide (x14_1 < (l0_0.length : Int)) = true := decide_eq_true c8
     clear c8
     by_cases c9 : 0 ≤ x14_1
     ·rw [if_pos c9] at H
      have c9b0 : decide (0 ≤ x14_1) = true := decide_eq_true c9
      clear c9
      by_cases c10 : x14_1 < (l0_0.length : Int)
      ·rw [if_pos c10] at H
       have c10b0 : decide (x14_1 < (l0_0.length : Int)) = true := decide_eq_true c10
       clear c10
       obtain ⟨t34, A36, H⟩ := bsm H
       (try dsimp only at H)
       have A11 := am A36
       clear A36
       obtain ⟨y37, hy_⟩ : ∃ y_ : List ByteArray, y_ = (([(⟨#[98, 111, 120]⟩ : ByteArray), t34, (⟨#[59]⟩ : ByteArray)] : List ByteArray)) := ⟨_, rfl⟩
       replace H : (if x3_1.length + y37.length < 8796093022208 then (impl_ProgramText.l0 k1 (x3_1 ++ y37) l0_0 (l0_0.length : Int) (wrap64 (x14_1 + 1)) l0_0 l0_1) else (none)) = some r := rx_
       have Ny37 := am hy_
       clear hy_
       by_cases c12 : x3_1.length + y37.length < 8796093022208
       ·rw [if_pos c12] at H
        have LMc12 := am c12
        clear c12
        obtain ⟨y39, hy_⟩ : ∃ y_ : List ByteArray, y_ = (x3_1 ++ y37) := ⟨_, rfl⟩
        replace H : (impl_ProgramText.l0 k1 y39 l0_0 (l0_0.length : Int) (wrap64 (x14_1 + 1)) l0_0 l0_1) = some r := rx_
        have Ny39 := am hy_
        clear hy_
        have H' := am H
        clear H
        have p40 : 0 ≤ (x14_1 : Int) := of_decide_eq_true asm_
        have q40 : x14_1 < (l0_0.length : Int) := of_decide_eq_true asm_
        obtain ⟨ad40, e40, hx40_0⟩ := Kd.at_int HR0_0.out x14_1 p40 q40
        cases e40
        replace hx40_0 := (HB.out.cell (World.block_lt_of_cell? w _ hx40_0)).trans hx40_0
        replace p40 := eq_true p40
        replace q40 := eq_true q40
        go_wp2_with (first | ((with_reducible refine gate_callee (f := 20) rfl ?_); refine gl_ 20 Tryz.func20 #[.int .i64 (rd l0_0 x14_1)] ?_; (with_reducible refine (strconv_Itoa_20.calls (rd l0_0 x14_1) t34 _ ?sideT A11.out).mono ?_); (case sideT => first | exact ht_ | exact Tab.below ht_ HB.out | exact Tab.below ht_ ab40_); rintro e w13 ⟨rfl, hb⟩; refine ⟨_, rfl, ?_⟩; replace HO_3 := am (Kd.R_below (aR_ HO_3.out) hb); replace BK31 := am (bbl_ BK31.out hb); replace HB := am (below_step ab40_ hb); (try clear hb)) | ((with_reducible refine gate_dst (N := 21) rfl ?_); refine Kd.R_lit Kd.string _ 9 rfl (N := 21) rfl (xs := ([(⟨#[98, 111, 120]⟩ : ByteArray), t34, (⟨#[59]⟩ : ByteArray)] : List ByteArray)) (inner := [.string (⟨#[98, 111, 120]⟩ : ByteArray), .string t34, .string (⟨#[59]⟩ : ByteArray)]) (ok := fun _ => True) (okp := fun _ => True) rn_ ?hp (fun _ hk => hk) trivial (Below.refl _ _) (Nat.le_refl _) (by simp) ?_; (case hp => exact (Reps.one (show Kd.M Kd.string _ _ _ (⟨#[98, 111, 120]⟩ : ByteArray) [.string (⟨#[98, 111, 120]⟩ : ByteArray)] from rfl) (Reps.one (show Kd.M Kd.string _ _ _ t34 [.string t34] from rfl) (Reps.one (show Kd.M Kd.string _ _ _ (⟨#[59]⟩ : ByteArray) [.string (⟨#[59]⟩ : ByteArray)] from rfl) (Reps.none _ _))))); intro v41 w14 ho15 hb hg_ hnew_; clear hg_ hnew_; (first | rw [← Ny37.out] at ho15 | (simp only [Int.reduceToNat] at ho15; rw [← Ny37.out] at ho15)); have HO42 := am (Kd.R_lower (Kd.R_new' ho15 (Kd.R_lt (aR_ HO_3.out))) (below_size ab40_)); replace HO_3 := am (Kd.R_elder' (aR_ HO_3.out) (Kd.R_base ho15) hb); replace BK31 := am (bbl_ BK31.out hb); replace HB := am (below_step ab40_ hb); clear hb ho15; obtain ⟨Ao17, co17, eo17⟩ := Kd.R_slice HO42.out; subst eo17) | ((with_reducible refine gate_builtin (b := .append) (xs := #[.tmp 18, .tmp 21]) rfl ?_); at_builtin; refine Kd.R_append_rows Kd.string (w0 := w) w.heap.size rfl (.tmp 18) (.tmp 21) 29 9 (.string ⟨#[]⟩) 16 rfl Tryz.underlying29 info9 rfl (by decide) (by omega) u3 x3_1 y37 _ _ _ (fun k_ => some k_ ≠ (.slice Ao17 y37.length co17 : Value).ownBlock) (fun _ => False) rfl rfl ?aO ?aR (fun _ _ h => h) (fun _ h => h.elim) ?aF ?aB ?aS ?aL ?_; (case aR => repeat (first | exact (Kd.R_reads' HO42.out).2.2 | (with_reducible refine Kd.C_alloc ?_ _) | (with_reducible refine Kd.C_drewN ?_ _) | (with_reducible refine Kd.C_drew ?_))); (case aB => exact ab40_); (case aF => exact (fun k_ hk => Kd.fresh' (Kd.R_lt (aR_ HO42.out)) k_ hk)); (case aO => exact (aRw_ (Kd.R_mono HO_3.out (fun _ hk => hk.2)))); (case aS => exact (below_size ab40_)); (case aL => have := LMc12.out; omega); intro v43 w16 ho hb hg hat; rw [← Ny39.out] at ho; replace BK31 := am (blk_grown (g := gb31) (o := .cells #[.slice (some ad40) l0_0.length c0_0, .slice A0_1 l0_1.length c0_1] 26 (0, 0)) (aG_ BK31.out) hg (Kd.R_ne HO_3.out BK31.out (by decide))); replace HO42 := am (Kd.R_after (ok := (fun _ => True)) (aR_ HO42.out) hg hat); replace HB := am (hb); have HO44 := am (ho); clear HO_3 ho hb hg hat))
        go_roundg k1
        case measure => have := HK1.out; omega
        case rel => exact ⟨(y39), (wrap64 (x14_1 + 1)), sd_, H', ⟨by have := HK1.out; omega⟩, ⟨aRw_ (Kd.R_mono HO44.out (fun _ hk => trivial))⟩, ⟨by (with_reducible repeat (first | refine blk_drewN ?_ _ | refine blk_drew ?_ | refine blk_alloc ?_ _)); exact BK31.out⟩, ⟨ab40_⟩⟩
       rw [if_neg c12] at H
       exact absurd H (by simp)
      rw [if_neg c10] at H
      exact absurd H (by simp)
     rw [if_neg c9] at H
     exact absurd H (by simp)
    rw [if_neg c8] at H
    have c8b0 : decide (x14_1 < (l0_0.length : Int)) = false := decide_eq_false c8
    clear c8
    have H' := am H
    clear H
    obtain ⟨hcz18_0, hcz18_1, hfz18_0, hfz18_1⟩ := bcf2_ BK31.out
    go_wp2
    go_loopg [3, 27] k1 (fun kq v3 v27 w' => ∃ (x3_2 : List ByteArray) (x27_2 : Int), v27 = .int .i64 x27_2 ∧ Aside0 (impl_ProgramText.l1 kq x3_2 l0_1 (l0_1.length : Int) x27_2 = some r) ∧ Aside0 (kq ≤ k1) ∧ Aside0 (Kd.R Kd.string 9 w' w.heap.size (fun _ => True) v3 x3_2) ∧ Aside0 (w'.heap[gb31]? = some (.cells #[(.slice A0_0 l0_0.length c0_0), (.slice A0_1 l0_1.length c0_1)] 26 (0, 0))) ∧ Aside0 (Below w.heap.size w w'))
    case atStart => exact ⟨(x3_1), (0), sd_, H', ⟨Nat.le_refl _⟩, ⟨aRw_ HO_3.out⟩, ⟨by (with_reducible repeat (first | refine blk_drewN ?_ _ | refine blk_drew ?_ | refine blk_alloc ?_ _)); exact BK31.out⟩, ⟨ab40_⟩⟩
    case round =>
     clear H'
     try clear c3
     try clear c8
     try clear c8b0
     try clear hcz18_0
     try clear hcz18_1
     try clear hcz5_0
     try clear hcz5_1
     try clear hcz7_0
     try clear hcz7_1
     try clear hfz18_0
     try clear hfz18_1
     try clear hfz5_0
     try clear hfz5_1
     try clear hfz7_0
     try clear hfz7_1
     obtain ⟨x3_2, x27_2, rfl, HA, HK2, HO_3, BK31, HB⟩ := hrel
     cases gk with
     | zero => exact absurd HA.out (by simp [impl_ProgramText.l1])
     | succ k2 =>
      have H := HA.out
      clear HA
      simp only [impl_ProgramText.l1] at H
      by_cases c19 : x27_2 < (l0_1.length : Int)
      ·rw [if_pos c19] at H
       have c19b0 : decide (x27_2 < (l0_1.length : Int)) = true := decide_eq_true c19
       clear c19
       by_cases c20 : 0 ≤ x27_2
       ·rw [if_pos c20] at H
        have c20b0 : decide (0 ≤ x27_2) = true := decide_eq_true c20
        clear c20
        by_cases c21 : x27_2 < (l0_1.length : Int)
        ·rw [if_pos c21] at H
         have c21b0 : decide (x27_2 < (l0_1.length : Int)) = true := decide_eq_true c21
         clear c21
         by_cases c22 : x3_2.length < 8796093022208
         ·rw [if_pos c22] at H
          have LMc22 := am c22
          clear c22
          obtain ⟨y45, hy_⟩ : ∃ y_ : List ByteArray, y_ = (x3_2 ++ [(⟨#[116, 97, 115, 107]⟩ : ByteArray)]) := ⟨_, rfl⟩
          replace H : ((impl_blockTokens.f k2 (rd_L4 l0_1 x27_2) y45).bind fun t46 => (impl_ProgramText.l1 k2 t46 l0_1 (l0_1.length : Int) (wrap64 (x27_2 + 1)))) = some r := rx_
          have Ny45 := am hy_
          clear hy_
          obtain ⟨t46, A47, H⟩ := bsm H
          (try dsimp only at H)
          have A23 := am A47
          clear A47
          have H' := am H
          clear H
          have p48 : 0 ≤ (x27_2 : Int) := of_decide_eq_true asm_
          have q48 : x27_2 < (l0_1.length : Int) := of_decide_eq_true asm_
          obtain ⟨ad48, A48_0, c48_0, e48, hx48_0, hl48_0, hi48_0⟩ := at_L4 HR0_1.out x27_2 p48 q48
          cases e48
          replace hx48_0 := (HB.out.cell (World.block_lt_of_cell? w _ hx48_0)).trans hx48_0
          have HR48_0 := am hi48_0
          have HC48_0 := am hl48_0
          clear hi48_0 hl48_0
          replace p48 := eq_true p48
          replace q48 := eq_true q48
          go_wp2_with (first | ((with_reducible refine gate_builtin (b := .append) (xs := #[.tmp 32, .tmp 33]) rfl ?_); at_builtin; refine Kd.R_append Kd.string (w0 := w) w.heap.size rfl (.tmp 32) (.tmp 33) 29 9 (.string ⟨#[]⟩) 16 rfl Tryz.underlying29 info9 rfl (by decide) (by omega) u3 x3_2 (⟨#[116, 97, 115, 107]⟩ : ByteArray) [.string (⟨#[116, 97, 115, 107]⟩ : ByteArray)] (fun _ => True) (fun _ => False) rfl rfl ?aP (fun _ hk => hk.elim) ?aF ?aO ?aB ?aS ?aL ?_; (case aP => exact rfl); (case aB => exact ab40_); (case aF => exact (fun _ _ => trivial)); (case aO => exact (aR_ HO_3.out)); (case aS => exact (below_size ab40_)); (case aL => have := LMc22.out; omega); intro v49 w24 ho hb hg hat; rw [← Ny45.out] at ho; replace BK31 := am (blk_grown (g := gb31) (o := .cells #[.slice A0_0 l0_0.length c0_0, .slice (some ad48) l0_1.length c0_1] 26 (0, 0)) (aG_ BK31.out) hg (Kd.R_ne HO_3.out BK31.out (by decide))); replace HB := am (hb); have HO50 := am (ho); clear HO_3 ho hb hg hat; obtain ⟨Ao25, co25, eo25⟩ := Kd.R_slice HO50.out; subst eo25) | ((with_reducible refine gate_callee (f := 21) rfl ?_); refine gl_ 35 Tryz.func21 #[.slice A48_0 (rd_L4 l0_1 x27_2).length c48_0, .slice Ao25 y45.length co25] ?_; (with_reducible refine (impl_blockTokens.calls k2 _ _ (rd_L4 l0_1 x27_2) (fun k_ => some k_ = (.slice Ao25 y45.length co25 : Value).ownBlock) (.slice Ao25 y45.length co25) y45 t46 w _ ?side1 ?side2 HC48_0.out ?side4 ?sideT A23.out).mono ?_); (case sideT => first | exact ht_ | exact Tab.below ht_ HB.out | exact Tab.below ht_ ab40_); (case side1 => exact ab40_); (case side2 => exact Kd.C_kept_came k58_heap HR48_0.out ab40_ (fun k_ hs_ => (fun e_ => Kd.R_base HO50.out k_ e_.symm) hs_)); (case side4 => exact Kd.R_tight rfl HO50.out); rintro e w26 ⟨v51, rfl, ho0, hb, hkp⟩; refine ⟨_, rfl, ?_⟩; replace BK31 := am (blk_kept (aG_ BK31.out) hkp (fun hs_ => (fun e_ => (Kd.R_ne HO50.out BK31.out (by decide)) e_) hs_)); have HO52 := am (Kd.R_mono (ok' := fun k_ => True) ho0 (fun k_ hk_ => trivial)); replace HB := am (hb); clear HO50; (try clear hb); (try clear hkp); (try clear ho0)))
          go_roundg k2
          case measure => have := HK1.out; have := HK2.out; omega
          case rel => exact ⟨(t46), (wrap64 (x27_2 + 1)), sd_, H', ⟨by have := HK1.out; have := HK2.out; omega⟩, ⟨aRw_ HO52.out⟩, ⟨by (with_reducible repeat (first | refine blk_drewN ?_ _ | refine blk_drew ?_ | refine blk_alloc ?_ _)); exact BK31.out⟩, ⟨ab40_⟩⟩
         rw [if_neg c22] at H
         exact absurd H (by simp)
        rw [if_neg c21] at H
        exact absurd H (by simp)
       rw [if_neg c20] at H
       exact absurd H (by simp)
      rw [if_neg c19] at H
      have c19b0 : decide (x27_2 < (l0_1.length : Int)) = false := decide_eq_false c19
      clear c19
      obtain ⟨t53, A54, H⟩ := bsm H
      (try dsimp only at H)
      have A27 := am A54
      clear A54
      obtain rfl := Option.some.inj H
      obtain ⟨Ao28, co28, eo28⟩ := Kd.R_slice HO_3.out
      subst eo28
      go_wp2_with (first | ((with_reducible refine gate_callee (f := 22) rfl ?_); refine gl_ 38 Tryz.func22 #[.slice Ao28 x3_2.length co28] ?_; (with_reducible refine (impl_TokensText.calls k2 _ _ x3_2 t53 _ (aC_ (Kd.R_reads' HO_3.out).2.2) (Kd.R_reads' HO_3.out).2.1 A27.out).mono ?_); rintro e w29 ⟨rfl, hb⟩; refine ⟨_, rfl, ?_⟩; replace HO_3 := am (Kd.R_below (aR_ HO_3.out) hb); replace BK31 := am (bbl_ BK31.out hb); replace HB := am (below_step ab40_ hb); (try clear hb)))
      go_ret
      exact ⟨rr_, ab40_⟩
 replace c3 := Bool.eq_false_iff.mpr c3
 subst c3
 rw [if_neg (show ¬ (false = true) by decide)] at H
 obtain rfl := Option.some.inj H
 go_wp2_with (first | ((with_reducible refine gate_callee (f := 19) rfl ?_); refine gl_ 9 Tryz.func19 #[.agg #[.slice A0_0 l0_0.length c0_0, .slice A0_1 l0_1.length c0_1]] ?_; (with_reducible refine (impl_ProgramValid.calls k _ _ l0_0 _ _ l0_1 false _ (aC_ (Kd.C_below HR0_0.out HB.out)) HC0_0.out (aC_ (Kd.C_below HR0_1.out HB.out)) HC0_1.out A2.out).mono ?_); rintro e w32 ⟨rfl, hb⟩; refine ⟨_, rfl, ?_⟩; replace BK31 := am (bbl_ BK31.out hb); replace HB := am (below_step ab40_ hb); (try clear hb)))
 go_ret
 exact ⟨rr_, ab40_⟩
theorem spec_l6In.calls (a0 : Int) (a1 : Int) (a2 : Int) (r : Bool) (w : World) (h : spec_l6In.f a0 a1 a2 = some r) :
  Calls Tryz.prog 46 #[.int .i64 a0, .int .i64 a1, .int .i64 a2] w fun e w' => e = .returned (.bool r) ∧ Drawn0 w w' := by
 have H : (if a0 ≥ a1 then (some (decide (a0 ≤ a2))) else (some false)) = some r := h
 clear h
 by_cases c4 : a0 ≥ a1
 ·rw [if_pos c4] at H
  have c4b0 : decide (a1 ≤ a0) = true := decide_eq_true c4
  clear c4
  obtain rfl := Option.some.inj H
  go_enter Tryz.func46, Tryz.ntmps46
  go_wp2
  go_ret
  exact ⟨sd_, ab18_⟩
 rw [if_neg c4] at H
 have c4b0 : decide (a1 ≤ a0) = false := decide_eq_false c4
 clear c4
 obtain rfl := Option.some.inj H
 go_enter Tryz.func46, Tryz.ntmps46
 go_wp2
 go_ret
 exact ⟨sd_, ab18_⟩
theorem spec_l12Rooms.mono_l : ∀ k, (∀ y0 y1, LeO (spec_l12Rooms.l0 k y0 y1) (spec_l12Rooms.l0 (k + 1) y0 y1))
 | 0 => fun _ _ r h => by simp [spec_l12Rooms.l0] at h
 | k + 1 => by
  have ih0 := spec_l12Rooms.mono_l k
  ·intro y0 y1
   unfold spec_l12Rooms.l0
   exact mo_
theorem spec_l12Rooms.mono : ∀ a0 k, LeO (spec_l12Rooms.f k a0) (spec_l12Rooms.f (k + 1) a0) := by
 intro a0 k
 have ih0 := spec_l12Rooms.mono_l k
 unfold spec_l12Rooms.f
 exact mo_
theorem spec_l12Rooms.calls (k : Nat) (A0 : Option Addr) (c0 : Nat) (l0 : List Int) (r : Bool) (w : World) (hr0 : Kd.C (Kd.int .i64) w A0 l0.length l0) (hc0 : l0.length ≤ c0) (h : spec_l12Rooms.f k l0 = some r) :
  Calls Tryz.prog 45 #[.slice A0 l0.length c0] w fun e w' => e = .returned (.bool r) ∧ Drawn0 w w' := by
 have HR0 := am hr0
 have HC0 := am hc0
 clear hr0 hc0
 have H : (spec_l12Rooms.l0 k l0 0) = some r := h
 clear h
 have H' := am H
 clear H
 go_enter Tryz.func45, Tryz.ntmps45
 go_wp2
 go_loopg [3] k (fun kq v3 w' => ∃ (x3_1 : Int), v3 = .int .i64 x3_1 ∧ Aside0 (spec_l12Rooms.l0 kq l0 x3_1 = some r) ∧ Aside0 (kq ≤ k) ∧ Drawn0 w w')
 case atStart => exact ⟨(0), sd_, H', ⟨Nat.le_refl _⟩, ab18_⟩
 case round =>
  clear H'
  obtain ⟨x3_1, rfl, HA, HK1, ⟨m1, rfl⟩⟩ := hrel
  cases gk with
  | zero => exact absurd HA.out (by simp [spec_l12Rooms.l0])
  | succ k1 =>
   have H := HA.out
   clear HA
   simp only [spec_l12Rooms.l0] at H
   by_cases c2 : x3_1 < (l0.length : Int)
   ·rw [if_pos c2] at H
    have c2b0 : decide (x3_1 < (l0.length : Int)) = true := decide_eq_true c2
    clear c2
    by_cases c3 : 0 ≤ x3_1
    ·rw [if_pos c3] at H
     have c3b0 : decide (0 ≤ x3_1) = true := decide_eq_true c3
     clear c3
     obtain ⟨t20, A4, H⟩ := bsa H
     (try dsimp only at H)
     by_cases c5 : t20 = true
     ·subst c5
      rw [if_pos rfl] at H
      have H' := am H
      clear H
      have p21 : 0 ≤ (x3_1 : Int) := of_decide_eq_true asm_
      have q21 : x3_1 < (l0.length : Int) := of_decide_eq_true asm_
      obtain ⟨ad21, e21, hx21_0⟩ := Kd.at_int HR0.out x3_1 p21 q21
      cases e21
      replace p21 := eq_true p21
      replace q21 := eq_true q21
      go_wp2_with (first | ((with_reducible refine gate_callee (f := 46) rfl ?_); refine gl_ 14 Tryz.func46 #[.int .i64 (rd l0 x3_1), .int .i64 1, .int .i64 4] ?_; (with_reducible refine (spec_l6In.calls (rd l0 x3_1) 1 4 true _ A4.out).mono ?_); rintro e w' ⟨rfl, ⟨nd, rfl⟩⟩; refine ⟨_, rfl, ?_⟩))
      go_roundg k1
      case measure => have := HK1.out; omega
      case rel => exact ⟨(wrap64 (x3_1 + 1)), sd_, H', ⟨by have := HK1.out; omega⟩, ab18_⟩
     replace c5 := Bool.eq_false_iff.mpr c5
     subst c5
     rw [if_neg (show ¬ (false = true) by decide)] at H
     obtain rfl := Option.some.inj H
     have p21 : 0 ≤ (x3_1 : Int) := of_decide_eq_true asm_
     have q21 : x3_1 < (l0.length : Int) := of_decide_eq_true asm_
     obtain ⟨ad21, e21, hx21_0⟩ := Kd.at_int HR0.out x3_1 p21 q21
     cases e21
     replace p21 := eq_true p21
     replace q21 := eq_true q21
     go_wp2_with (first | ((with_reducible refine gate_callee (f := 46) rfl ?_); refine gl_ 14 Tryz.func46 #[.int .i64 (rd l0 x3_1), .int .i64 1, .int .i64 4] ?_; (with_reducible refine (spec_l6In.calls (rd l0 x3_1) 1 4 false _ A4.out).mono ?_); rintro e w' ⟨rfl, ⟨nd, rfl⟩⟩; refine ⟨_, rfl, ?_⟩))
     go_ret
     exact ⟨sd_, ab18_⟩
    rw [if_neg c3] at H
    exact absurd H (by simp)
   rw [if_neg c2] at H
   have c2b0 : decide (x3_1 < (l0.length : Int)) = false := decide_eq_false c2
   clear c2
   obtain rfl := Option.some.inj H
   go_wp2
   go_ret
   exact ⟨sd_, ab18_⟩
theorem spec_l11Count.mono_l : ∀ k, (∀ y0, LeO (spec_l11Count.f k y0) (spec_l11Count.f (k + 1) y0)) ∧ (∀ y0 y1 y2, LeO (spec_l11Count.l0 k y0 y1 y2) (spec_l11Count.l0 (k + 1) y0 y1 y2))
 | 0 => ⟨fun _ r h => by simp [spec_l11Count.f] at h, fun _ _ _ r h => by simp [spec_l11Count.l0] at h⟩
 | k + 1 => by
  obtain ⟨ih0, ih1⟩ := spec_l11Count.mono_l k
  refine ⟨?_, ?_⟩
  ·intro y0
   unfold spec_l11Count.f
   exact mo_
  ·intro y0 y1 y2
   unfold spec_l11Count.l0
   exact mo_
theorem spec_l11Count.mono : ∀ a0 k, LeO (spec_l11Count.f k a0) (spec_l11Count.f (k + 1) a0) := by
 intro a0 k
 obtain ⟨ih0, ih1⟩ := spec_l11Count.mono_l k
 exact ih0 a0
def spec_l11Count.T5 : Bool × List (List Nat × List Nat) := (true, [([], []), ([0], [0]), ([], []), ([], []), ([2, 3], [2, 3]), ([4], [4]), ([5], [5]), ([6], [6]), ([1, 7], [1, 7]), ([], []), ([], []), ([9, 10], [9, 10]), ([11], [11]), ([12], [12]), ([13, 7], [13]), ([8, 14], [8, 14]), ([15, 14, 0, 1, 2, 3, 4, 5, 6, 7, 8, 9, 10, 11, 12, 13, 14, 15], [0, 15])])
def spec_l11Count.B5 : List Nat := [0, 1, 0, 0, 12, 28, 60, 124, 255, 0, 0, 1536, 3584, 7680, 16124, 32767, 65535]
theorem spec_l11Count.tab5 : rtab .any (opsOf Tryz.f71 5) = spec_l11Count.T5 := by kernel_rfl
theorem spec_l11Count.bits5 : waitsOk spec_l11Count.T5.2 spec_l11Count.B5 = true := by kernel_rfl
theorem spec_l11Count.calls (k : Nat) : ∀ (A0 : Option Addr) (c0 : Nat) (l0 : List (S58)) (r : Int) (w : World) (hr0 : Kd.C k58 w A0 l0.length l0) (hc0 : l0.length ≤ c0) (h : spec_l11Count.f k l0 = some r),
  Calls Tryz.prog 71 #[.slice A0 l0.length c0] w fun e w' => e = .returned (.int .i64 r) ∧ Below w.heap.size w w' := by
 induction k using Nat.strongRecOn with
 | _ k ih =>
 intro A0 c0 l0 r w hr0 hc0 h
 cases k with
 | zero => exact absurd h (by simp [spec_l11Count.f])
 | succ k =>
 simp only [spec_l11Count.f] at h
 have HR0 := am hr0
 have HC0 := am hc0
 clear hr0 hc0
 have HB := am (Below.refl w.heap.size w)
 have H : (spec_l11Count.l0 k l0 0 0) = some r := h
 clear h
 have H' := am H
 clear H
 go_enter Tryz.func71, Tryz.ntmps71
 go_wp2
 go_loopg [3, 4] k (fun kq v3 v4 w' => ∃ (x3_1 : Int) (x4_1 : Int), v3 = .int .i64 x3_1 ∧ v4 = .int .i64 x4_1 ∧ Aside0 (spec_l11Count.l0 kq l0 x3_1 x4_1 = some r) ∧ Aside0 (kq ≤ k) ∧ Aside0 (Below w.heap.size w w'))
 case atStart => exact ⟨(0), (0), sd_, sd_, H', ⟨Nat.le_refl _⟩, ⟨ab2_⟩⟩
 case round =>
  clear H'
  obtain ⟨x3_1, x4_1, rfl, rfl, HA, HK1, HB⟩ := hrel
  cases gk with
  | zero => exact absurd HA.out (by simp [spec_l11Count.l0])
  | succ k1 =>
   have H := HA.out
   clear HA
   simp only [spec_l11Count.l0] at H
   by_cases c2 : x4_1 < (l0.length : Int)
   ·rw [if_pos c2] at H
    have c2b0 : decide (x4_1 < (l0.length : Int)) = true := decide_eq_true c2
    clear c2
    by_cases c3 : 0 ≤ x4_1
    ·rw [if_pos c3] at H
     have c3b0 : decide (0 ≤ x4_1) = true := decide_eq_true c3
     clear c3
     obtain ⟨t27, A4, H⟩ := bsa H
     (try dsimp only at H)
     obtain ⟨t29, A5, H⟩ := bsa H
     (try dsimp only at H)
     have H' := am H
     clear H
     try go_wp2
     replace HB := am (below_drew1 HB.out)
     have p30 : 0 ≤ (x4_1 : Int) := of_decide_eq_true asm_
     have q30 : x4_1 < (l0.length : Int) := of_decide_eq_true asm_
     obtain ⟨ad30, A30_5, c30_5, A30_6, c30_6, A30_7, c30_7, e30, hx30_0, hx30_1, hx30_2, hx30_3, hx30_4, hx30_5, hx30_6, hx30_7, hl30_5, hi30_5, hl30_6, hi30_6, hl30_7, hi30_7⟩ := at_T58 HR0.out x4_1 p30 q30
     have hw30_7 := hx30_7
     have hw30_6 := hx30_6
     have hw30_5 := hx30_5
     have hw30_4 := hx30_4
     have hw30_3 := hx30_3
     have hw30_2 := hx30_2
     have hw30_1 := hx30_1
     have hw30_0 := hx30_0
     cases e30
     replace hx30_0 := (HB.out.cell (World.block_lt_of_cell? w _ hx30_0)).trans hx30_0
     replace hx30_1 := (HB.out.cell (World.block_lt_of_cell? w _ hx30_1)).trans hx30_1
     replace hx30_2 := (HB.out.cell (World.block_lt_of_cell? w _ hx30_2)).trans hx30_2
     replace hx30_3 := (HB.out.cell (World.block_lt_of_cell? w _ hx30_3)).trans hx30_3
     replace hx30_4 := (HB.out.cell (World.block_lt_of_cell? w _ hx30_4)).trans hx30_4
     replace hx30_5 := (HB.out.cell (World.block_lt_of_cell? w _ hx30_5)).trans hx30_5
     replace hx30_6 := (HB.out.cell (World.block_lt_of_cell? w _ hx30_6)).trans hx30_6
     replace hx30_7 := (HB.out.cell (World.block_lt_of_cell? w _ hx30_7)).trans hx30_7
     have HR30_5 := am hi30_5
     have HC30_5 := am hl30_5
     clear hi30_5 hl30_5
     have HR30_6 := am hi30_6
     have HC30_6 := am hl30_6
     clear hi30_6 hl30_6
     have HR30_7 := am hi30_7
     have HC30_7 := am hl30_7
     clear hi30_7 hl30_7
     replace p30 := eq_true p30
     replace q30 := eq_true q30
     have p31 : 0 ≤ (x4_1 : Int) := of_decide_eq_true asm_
     have q31 : x4_1 < (l0.length : Int) := of_decide_eq_true asm_
     obtain ⟨ad31, A31_5, c31_5, A31_6, c31_6, A31_7, c31_7, e31, hx31_0, hx31_1, hx31_2, hx31_3, hx31_4, hx31_5, hx31_6, hx31_7, hl31_5, hi31_5, hl31_6, hi31_6, hl31_7, hi31_7⟩ := at_T58 HR0.out x4_1 p31 q31
     have hw31_7 := hx31_7
     have hw31_6 := hx31_6
     have hw31_5 := hx31_5
     have hw31_4 := hx31_4
     have hw31_3 := hx31_3
     have hw31_2 := hx31_2
     have hw31_1 := hx31_1
     have hw31_0 := hx31_0
     obtain rfl : ad30 = ad31 := (by injection e31)
     replace hx31_0 := (HB.out.cell (World.block_lt_of_cell? w _ hx31_0)).trans hx31_0
     replace hx31_1 := (HB.out.cell (World.block_lt_of_cell? w _ hx31_1)).trans hx31_1
     replace hx31_2 := (HB.out.cell (World.block_lt_of_cell? w _ hx31_2)).trans hx31_2
     replace hx31_3 := (HB.out.cell (World.block_lt_of_cell? w _ hx31_3)).trans hx31_3
     replace hx31_4 := (HB.out.cell (World.block_lt_of_cell? w _ hx31_4)).trans hx31_4
     replace hx31_5 := (HB.out.cell (World.block_lt_of_cell? w _ hx31_5)).trans hx31_5
     replace hx31_6 := (HB.out.cell (World.block_lt_of_cell? w _ hx31_6)).trans hx31_6
     replace hx31_7 := (HB.out.cell (World.block_lt_of_cell? w _ hx31_7)).trans hx31_7
     have HR31_5 := am hi31_5
     have HC31_5 := am hl31_5
     clear hi31_5 hl31_5
     have HR31_6 := am hi31_6
     have HC31_6 := am hl31_6
     clear hi31_6 hl31_6
     have HR31_7 := am hi31_7
     have HC31_7 := am hl31_7
     clear hi31_7 hl31_7
     replace p31 := eq_true p31
     replace q31 := eq_true q31
     have ea_ := Option.some.inj (hx30_5.symm.trans hx31_5)
     injection ea_ with ea_ en_ ec_
     subst ea_
     subst ec_
     clear en_
     have ea_ := Option.some.inj (hx30_6.symm.trans hx31_6)
     injection ea_ with ea_ en_ ec_
     subst ea_
     subst ec_
     clear en_
     have ea_ := Option.some.inj (hx30_7.symm.trans hx31_7)
     injection ea_ with ea_ en_ ec_
     subst ea_
     subst ec_
     clear en_
     refine start_ (n := 17) (S := fun w' => w'.cell? (ad30.add ((x4_1).toNat * 8)) = some (.int .i64 ((rd_T58 l0 x4_1).f0)) ∧ w'.cell? ⟨(ad30.add ((x4_1).toNat * 8)).block, (ad30.add ((x4_1).toNat * 8)).off + 1, none⟩ = some (.int .i64 ((rd_T58 l0 x4_1).f1)) ∧ w'.cell? ⟨(ad30.add ((x4_1).toNat * 8)).block, (ad30.add ((x4_1).toNat * 8)).off + 2, none⟩ = some (.int .i64 ((rd_T58 l0 x4_1).f2)) ∧ w'.cell? ⟨(ad30.add ((x4_1).toNat * 8)).block, (ad30.add ((x4_1).toNat * 8)).off + 3, none⟩ = some (.int .i64 ((rd_T58 l0 x4_1).f3.f0)) ∧ w'.cell? ⟨(ad30.add ((x4_1).toNat * 8)).block, (ad30.add ((x4_1).toNat * 8)).off + 4, none⟩ = some (.int .i64 ((rd_T58 l0 x4_1).f3.f1)) ∧ w'.cell? ⟨(ad30.add ((x4_1).toNat * 8)).block, (ad30.add ((x4_1).toNat * 8)).off + 5, none⟩ = some (.slice A30_5 ((rd_T58 l0 x4_1).f3.f2).length c30_5) ∧ w'.cell? ⟨(ad30.add ((x4_1).toNat * 8)).block, (ad30.add ((x4_1).toNat * 8)).off + 6, none⟩ = some (.slice A30_6 ((rd_T58 l0 x4_1).f4).length c30_6) ∧ w'.cell? ⟨(ad30.add ((x4_1).toNat * 8)).block, (ad30.add ((x4_1).toNat * 8)).off + 7, none⟩ = some (.slice A30_7 ((rd_T58 l0 x4_1).f5).length c30_7) ∧ w'.cell? (ad30.add ((x4_1).toNat * 8)) = some (.int .i64 ((rd_T58 l0 x4_1).f0)) ∧ w'.cell? ⟨(ad30.add ((x4_1).toNat * 8)).block, (ad30.add ((x4_1).toNat * 8)).off + 1, none⟩ = some (.int .i64 ((rd_T58 l0 x4_1).f1)) ∧ w'.cell? ⟨(ad30.add ((x4_1).toNat * 8)).block, (ad30.add ((x4_1).toNat * 8)).off + 2, none⟩ = some (.int .i64 ((rd_T58 l0 x4_1).f2)) ∧ w'.cell? ⟨(ad30.add ((x4_1).toNat * 8)).block, (ad30.add ((x4_1).toNat * 8)).off + 3, none⟩ = some (.int .i64 ((rd_T58 l0 x4_1).f3.f0)) ∧ w'.cell? ⟨(ad30.add ((x4_1).toNat * 8)).block, (ad30.add ((x4_1).toNat * 8)).off + 4, none⟩ = some (.int .i64 ((rd_T58 l0 x4_1).f3.f1)) ∧ w'.cell? ⟨(ad30.add ((x4_1).toNat * 8)).block, (ad30.add ((x4_1).toNat * 8)).off + 5, none⟩ = some (.slice A30_5 ((rd_T58 l0 x4_1).f3.f2).length c30_5) ∧ w'.cell? ⟨(ad30.add ((x4_1).toNat * 8)).block, (ad30.add ((x4_1).toNat * 8)).off + 6, none⟩ = some (.slice A30_6 ((rd_T58 l0 x4_1).f4).length c30_6) ∧ w'.cell? ⟨(ad30.add ((x4_1).toNat * 8)).block, (ad30.add ((x4_1).toNat * 8)).off + 7, none⟩ = some (.slice A30_7 ((rd_T58 l0 x4_1).f5).length c30_7)) (ds := []) (bz 17 0) (by kernel_rfl) rfl rfl ⟨((HB.out.cell (World.block_lt_of_cell? w _ hw30_0)).trans hw30_0), ((HB.out.cell (World.block_lt_of_cell? w _ hw30_1)).trans hw30_1), ((HB.out.cell (World.block_lt_of_cell? w _ hw30_2)).trans hw30_2), ((HB.out.cell (World.block_lt_of_cell? w _ hw30_3)).trans hw30_3), ((HB.out.cell (World.block_lt_of_cell? w _ hw30_4)).trans hw30_4), ((HB.out.cell (World.block_lt_of_cell? w _ hw30_5)).trans hw30_5), ((HB.out.cell (World.block_lt_of_cell? w _ hw30_6)).trans hw30_6), ((HB.out.cell (World.block_lt_of_cell? w _ hw30_7)).trans hw30_7), ((HB.out.cell (World.block_lt_of_cell? w _ hw31_0)).trans hw31_0), ((HB.out.cell (World.block_lt_of_cell? w _ hw31_1)).trans hw31_1), ((HB.out.cell (World.block_lt_of_cell? w _ hw31_2)).trans hw31_2), ((HB.out.cell (World.block_lt_of_cell? w _ hw31_3)).trans hw31_3), ((HB.out.cell (World.block_lt_of_cell? w _ hw31_4)).trans hw31_4), ((HB.out.cell (World.block_lt_of_cell? w _ hw31_5)).trans hw31_5), ((HB.out.cell (World.block_lt_of_cell? w _ hw31_6)).trans hw31_6), ((HB.out.cell (World.block_lt_of_cell? w _ hw31_7)).trans hw31_7)⟩ (fun hHeld => ?_); refine with_tabW spec_l11Count.tab5 spec_l11Count.bits5 (fun HT_ HW_ => ?_)
     generalize wr.drew = w6 at HB HR30_5 HR30_6 HR30_7 HR31_5 HR31_6 HR31_7 hx30_0 hx30_1 hx30_2 hx30_3 hx30_4 hx30_5 hx30_6 hx30_7 hx31_0 hx31_1 hx31_2 hx31_3 hx31_4 hx31_5 hx31_6 hx31_7 hHeld ⊢
     refine pr_ 0 11 (bz 17 1) HT_ ?_
     refine pr_ 1 12 (bz 17 3) HT_ ?_
     refine pr_ 2 13 (bz 17 7) HT_ ?_
     refine pr_ 3 14 (bz 17 15) HT_ ?_
     refine pr_ 4 15 (bz 17 31) HT_ ?_
     refine pr_ 5 16 (bz 17 63) HT_ ?_
     refine pr_ 9 20 (bz 17 575) HT_ ?_
     refine pr_ 10 21 (bz 17 1599) HT_ ?_
     refine pr_ 11 22 (bz 17 3647) HT_ ?_
     refine pr_ 12 23 (bz 17 7743) HT_ ?_
     refine tk16_ 6 17 (bz 17 7807) HT_ HW_ hHeld ?_
     refine tk16_ 13 24 (bz 17 15999) HT_ HW_ hHeld ?_
     refine one_ (i := 7) (N := some 18) (bz 17 16127) rfl rfl (one_of HT_.out (by kernel_rfl)) (by decide) (fun K hK => ?_)
     refine goes_ Tryz.func71 (by kernel_rfl) rfl #[.slice A30_6 ((rd_T58 l0 x4_1).f4).length c30_6] (by rfl) rfl rfl ab1_ ?_
     with_reducible refine (ih k1 (by have := HK1.out; omega) _ _ ((rd_T58 l0 x4_1).f4) t27 _ (aC_ (Kd.C_below HR30_6.out HB.out)) HC30_6.out A4.out).mono ?_
     rintro e w7 ⟨rfl, hb⟩
     refine ⟨_, rfl, ?_⟩
     replace HB := am (below_step ab2_ hb)
     (try clear hb)
     (try clear hb2)
     (try clear hk)
     (try clear hi)
     refine hK.out _ _ ⟨((HB.out.cell (World.block_lt_of_cell? w _ hw30_0)).trans hw30_0), ((HB.out.cell (World.block_lt_of_cell? w _ hw30_1)).trans hw30_1), ((HB.out.cell (World.block_lt_of_cell? w _ hw30_2)).trans hw30_2), ((HB.out.cell (World.block_lt_of_cell? w _ hw30_3)).trans hw30_3), ((HB.out.cell (World.block_lt_of_cell? w _ hw30_4)).trans hw30_4), ((HB.out.cell (World.block_lt_of_cell? w _ hw30_5)).trans hw30_5), ((HB.out.cell (World.block_lt_of_cell? w _ hw30_6)).trans hw30_6), ((HB.out.cell (World.block_lt_of_cell? w _ hw30_7)).trans hw30_7), ((HB.out.cell (World.block_lt_of_cell? w _ hw31_0)).trans hw31_0), ((HB.out.cell (World.block_lt_of_cell? w _ hw31_1)).trans hw31_1), ((HB.out.cell (World.block_lt_of_cell? w _ hw31_2)).trans hw31_2), ((HB.out.cell (World.block_lt_of_cell? w _ hw31_3)).trans hw31_3), ((HB.out.cell (World.block_lt_of_cell? w _ hw31_4)).trans hw31_4), ((HB.out.cell (World.block_lt_of_cell? w _ hw31_5)).trans hw31_5), ((HB.out.cell (World.block_lt_of_cell? w _ hw31_6)).trans hw31_6), ((HB.out.cell (World.block_lt_of_cell? w _ hw31_7)).trans hw31_7)⟩ (fun hHeld => ?_)
     clear hK K
     refine norm_ (a' := ?_) ?_ ?_
     rotate_left
     ·show Act.put _ (some 18) _ = _
      simp only [Act.put, List.setIfInBounds_toArray, List.set_cons_zero, List.set_cons_succ, i64_w, i32_w]
      rfl
     refine pr_ 8 19 (bz 17 16383) HT_ ?_
     refine one_ (i := 14) (N := some 25) (bz 17 32767) rfl rfl (one_of HT_.out (by kernel_rfl)) (by decide) (fun K hK => ?_)
     refine goes_ Tryz.func71 (by kernel_rfl) rfl #[.slice A30_7 ((rd_T58 l0 x4_1).f5).length c30_7] (by rfl) rfl rfl ab1_ ?_
     with_reducible refine (ih k1 (by have := HK1.out; omega) _ _ ((rd_T58 l0 x4_1).f5) t29 _ (aC_ (Kd.C_below HR31_7.out HB.out)) HC31_7.out A5.out).mono ?_
     rintro e w8 ⟨rfl, hb⟩
     refine ⟨_, rfl, ?_⟩
     replace HB := am (below_step ab2_ hb)
     (try clear hb)
     (try clear hb2)
     (try clear hk)
     (try clear hi)
     refine hK.out _ _ ⟨((HB.out.cell (World.block_lt_of_cell? w _ hw30_0)).trans hw30_0), ((HB.out.cell (World.block_lt_of_cell? w _ hw30_1)).trans hw30_1), ((HB.out.cell (World.block_lt_of_cell? w _ hw30_2)).trans hw30_2), ((HB.out.cell (World.block_lt_of_cell? w _ hw30_3)).trans hw30_3), ((HB.out.cell (World.block_lt_of_cell? w _ hw30_4)).trans hw30_4), ((HB.out.cell (World.block_lt_of_cell? w _ hw30_5)).trans hw30_5), ((HB.out.cell (World.block_lt_of_cell? w _ hw30_6)).trans hw30_6), ((HB.out.cell (World.block_lt_of_cell? w _ hw30_7)).trans hw30_7), ((HB.out.cell (World.block_lt_of_cell? w _ hw31_0)).trans hw31_0), ((HB.out.cell (World.block_lt_of_cell? w _ hw31_1)).trans hw31_1), ((HB.out.cell (World.block_lt_of_cell? w _ hw31_2)).trans hw31_2), ((HB.out.cell (World.block_lt_of_cell? w _ hw31_3)).trans hw31_3), ((HB.out.cell (World.block_lt_of_cell? w _ hw31_4)).trans hw31_4), ((HB.out.cell (World.block_lt_of_cell? w _ hw31_5)).trans hw31_5), ((HB.out.cell (World.block_lt_of_cell? w _ hw31_6)).trans hw31_6), ((HB.out.cell (World.block_lt_of_cell? w _ hw31_7)).trans hw31_7)⟩ (fun hHeld => ?_)
     clear hK K
     refine norm_ (a' := ?_) ?_ ?_
     rotate_left
     ·show Act.put _ (some 25) _ = _
      simp only [Act.put, List.setIfInBounds_toArray, List.set_cons_zero, List.set_cons_succ, i64_w, i32_w]
      rfl
     refine pr_ 15 26 (bz 17 65535) HT_ ?_
     refine pr_ 16 3 (bz 17 131071) HT_ ?_
     refine done_ (done_of HT_.out (by kernel_rfl)) ?_
     try go_wp2
     go_roundg k1
     case measure => have := HK1.out; omega
     case rel => exact ⟨(wrap64 ((wrap64 ((wrap64 (x3_1 + 1)) + t27)) + t29)), (wrap64 (x4_1 + 1)), sd_, sd_, H', ⟨by have := HK1.out; omega⟩, ⟨ab2_⟩⟩
    rw [if_neg c3] at H
    exact absurd H (by simp)
   rw [if_neg c2] at H
   have c2b0 : decide (x4_1 < (l0.length : Int)) = false := decide_eq_false c2
   clear c2
   obtain rfl := Option.some.inj H
   go_wp2
   go_ret
   exact ⟨rr_, ab2_⟩
theorem spec_OpValid.calls (a0 : Int) (r : Bool) (w : World) (h : spec_OpValid.f a0 = some r) :
  Calls Tryz.prog 122 #[.int .i64 a0] w fun e w' => e = .returned (.bool r) ∧ Drawn0 w w' := by
 have H : ((spec_l6In.f a0 1 12).bind fun t21 => (some t21)) = some r := h
 clear h
 obtain ⟨t21, A2, H⟩ := bsa H
 (try dsimp only at H)
 obtain rfl := Option.some.inj H
 go_enter Tryz.func122, Tryz.ntmps122
 go_wp2_with (first | ((with_reducible refine gate_callee (f := 46) rfl ?_); refine gl_ 4 Tryz.func46 #[.int .i64 a0, .int .i64 1, .int .i64 12] ?_; (with_reducible refine (spec_l6In.calls a0 1 12 t21 _ A2.out).mono ?_); rintro e w' ⟨rfl, ⟨nd, rfl⟩⟩; refine ⟨_, rfl, ?_⟩))
 go_ret
 exact ⟨sd_, ab18_⟩
theorem spec_l4Ok.mono_l : ∀ k, (∀ y0 y1 y2 y3, LeO (spec_l4Ok.f k y0 y1 y2 y3) (spec_l4Ok.f (k + 1) y0 y1 y2 y3))
 | 0 => fun _ _ _ _ r h => by simp [spec_l4Ok.f] at h
 | k + 1 => by
  have ih0 := spec_l4Ok.mono_l k
  ·intro y0 y1 y2 y3
   unfold spec_l4Ok.f
   exact mo_
theorem spec_l4Ok.mono : ∀ a0 a1 a2 a3 k, LeO (spec_l4Ok.f k a0 a1 a2 a3) (spec_l4Ok.f (k + 1) a0 a1 a2 a3) := by
 intro a0 a1 a2 a3 k
 have ih0 := spec_l4Ok.mono_l k
 exact ih0 a0 a1 a2 a3
theorem spec_l4Ok.calls (k : Nat) : ∀ (a0_0 : Int) (a0_1 : Int) (A0_2 : Option Addr) (c0_2 : Nat) (l0_2 : List (S56)) (a1 : Int) (r : Bool) (w : World) (hr0_2 : Kd.C k56 w A0_2 l0_2.length l0_2) (hc0_2 : l0_2.length ≤ c0_2) (h : spec_l4Ok.f k a0_0 a0_1 l0_2 a1 = some r),
  Calls Tryz.prog 135 #[.agg #[.int .i64 a0_0, .int .i64 a0_1, .slice A0_2 l0_2.length c0_2], .int .i64 a1] w fun e w' => e = .returned (.bool r) ∧ Below w.heap.size w w' := by
 induction k using Nat.strongRecOn with
 | _ k ih =>
 intro a0_0 a0_1 A0_2 c0_2 l0_2 a1 r w hr0_2 hc0_2 h
 cases k with
 | zero => exact absurd h (by simp [spec_l4Ok.f])
 | succ k =>
 simp only [spec_l4Ok.f] at h
 have hu56 := Tryz.underlying56
 have HR0_2 := am hr0_2
 have HC0_2 := am hc0_2
 clear hr0_2 hc0_2
 have HB := am (Below.refl w.heap.size w)
 have H : (if a1 < 1 then (some false) else (if a0_0 = 0 then ((spec_l6In.f a0_1 0 99999).bind fun t28 => (if t28 = true then (some ((l0_2.length : Int) == 0)) else (some false))) else (if a0_0 = 13 then ((spec_l6In.f a0_1 0 3).bind fun t36 => (if t36 = true then (some ((l0_2.length : Int) == 0)) else (some false))) else ((spec_OpValid.f a0_0).bind fun t38 => (if t38 = true then (if a0_1 = 0 then (if (l0_2.length : Int) = 2 then (if 0 < (l0_2.length : Int) then ((spec_l4Ok.f k ((rd_T56 l0_2 0).f0) ((rd_T56 l0_2 0).f1) ((rd_T56 l0_2 0).f2) (wrap64 (a1 - 1))).bind fun t40 => (if t40 = true then (if 1 < (l0_2.length : Int) then ((spec_l4Ok.f k ((rd_T56 l0_2 1).f0) ((rd_T56 l0_2 1).f1) ((rd_T56 l0_2 1).f2) (wrap64 (a1 - 1))).bind fun t42 => (some t42)) else (none)) else (some false))) else (none)) else (some false)) else (some false)) else (some false)))))) = some r := h
 clear h
 have HH_ := am H
 clear H
 go_enter Tryz.func135, Tryz.ntmps135
 go_upto_region 1 with (first | ((with_reducible refine gate_dst (N := 2) rfl ?_); (try (refine gate_guard (by rfl) ?_; dsimp only)); refine box_event rfl (N := 2) rfl (cs := #[.int .i64 a0_0, .int .i64 a0_1, .slice A0_2 l0_2.length c0_2]) (t := 56) rn_ ?_; intro gb43 hg w4 hbox hb; have BK43 := am (hbox); have GW43 := am ((by rw [hg]; exact (below_size ab2_) : w.heap.size ≤ gb43)); have GE43 := am ((by rw [hg]; exact (below_size ab2_) : w.heap.size ≤ gb43)); replace HB := am (below_step ab2_ hb); clear hb hbox hg))
 have H := HH_.out
 clear HH_
 by_cases c3 : a1 < 1
 ·rw [if_pos c3] at H
  have c3b0 : decide (a1 < 1) = true := decide_eq_true c3
  clear c3
  obtain rfl := Option.some.inj H
  go_wp2
  go_ret
  exact ⟨rr_, ab15_⟩
 rw [if_neg c3] at H
 have c3b0 : decide (a1 < 1) = false := decide_eq_false c3
 clear c3
 by_cases c5 : a0_0 = 0
 ·rw [if_pos c5] at H
  have c5b0 : (a0_0 == 0) = true := beq_iff_eq.mpr c5
  have c5b1 : (a0_0 != 0) = false := bne_eq_false_iff_eq.mpr c5
  clear c5
  obtain ⟨t28, A6, H⟩ := bsa H
  (try dsimp only at H)
  by_cases c7 : t28 = true
  ·subst c7
   rw [if_pos rfl] at H
   obtain rfl := Option.some.inj H
   obtain ⟨hcz9_0, hcz9_1, hcz9_2, hfz9_0, hfz9_1, hfz9_2⟩ := bcf3_ BK43.out
   go_wp2_with (first | ((with_reducible refine gate_callee (f := 46) rfl ?_); refine gl_ 12 Tryz.func46 #[.int .i64 a0_1, .int .i64 0, .int .i64 99999] ?_; (with_reducible refine (spec_l6In.calls a0_1 0 99999 true _ A6.out).mono ?_); rintro e w' ⟨rfl, ⟨nd, rfl⟩⟩; refine ⟨_, rfl, ?_⟩))
   go_ret
   exact ⟨rr_, ab15_⟩
  replace c7 := Bool.eq_false_iff.mpr c7
  subst c7
  rw [if_neg (show ¬ (false = true) by decide)] at H
  obtain rfl := Option.some.inj H
  obtain ⟨hcz11_0, hcz11_1, hcz11_2, hfz11_0, hfz11_1, hfz11_2⟩ := bcf3_ BK43.out
  go_wp2_with (first | ((with_reducible refine gate_callee (f := 46) rfl ?_); refine gl_ 12 Tryz.func46 #[.int .i64 a0_1, .int .i64 0, .int .i64 99999] ?_; (with_reducible refine (spec_l6In.calls a0_1 0 99999 false _ A6.out).mono ?_); rintro e w' ⟨rfl, ⟨nd, rfl⟩⟩; refine ⟨_, rfl, ?_⟩))
  go_ret
  exact ⟨rr_, ab15_⟩
 rw [if_neg c5] at H
 have c5b0 : (a0_0 == 0) = false := beq_eq_false_iff_ne.mpr c5
 have c5b1 : (a0_0 != 0) = true := bne_iff_ne.mpr c5
 by_cases c12 : a0_0 = 13
 ·rw [if_pos c12] at H
  have c12b0 : (a0_0 == 13) = true := beq_iff_eq.mpr c12
  have c12b1 : (a0_0 != 13) = false := bne_eq_false_iff_eq.mpr c12
  clear c12
  obtain ⟨t36, A44, H⟩ := bsm H
  (try dsimp only at H)
  have A13 := am A44
  clear A44
  by_cases c14 : t36 = true
  ·subst c14
   rw [if_pos rfl] at H
   obtain rfl := Option.some.inj H
   obtain ⟨hcz16_0, hcz16_1, hcz16_2, hfz16_0, hfz16_1, hfz16_2⟩ := bcf3_ BK43.out
   go_wp2_with (first | ((with_reducible refine gate_callee (f := 46) rfl ?_); refine gl_ 24 Tryz.func46 #[.int .i64 a0_1, .int .i64 0, .int .i64 3] ?_; (with_reducible refine (spec_l6In.calls a0_1 0 3 true _ A13.out).mono ?_); rintro e w' ⟨rfl, ⟨nd, rfl⟩⟩; refine ⟨_, rfl, ?_⟩))
   go_ret
   exact ⟨rr_, ab15_⟩
  replace c14 := Bool.eq_false_iff.mpr c14
  subst c14
  rw [if_neg (show ¬ (false = true) by decide)] at H
  obtain rfl := Option.some.inj H
  obtain ⟨hcz18_0, hcz18_1, hcz18_2, hfz18_0, hfz18_1, hfz18_2⟩ := bcf3_ BK43.out
  go_wp2_with (first | ((with_reducible refine gate_callee (f := 46) rfl ?_); refine gl_ 24 Tryz.func46 #[.int .i64 a0_1, .int .i64 0, .int .i64 3] ?_; (with_reducible refine (spec_l6In.calls a0_1 0 3 false _ A13.out).mono ?_); rintro e w' ⟨rfl, ⟨nd, rfl⟩⟩; refine ⟨_, rfl, ?_⟩))
  go_ret
  exact ⟨rr_, ab15_⟩
 rw [if_neg c12] at H
 have c12b0 : (a0_0 == 13) = false := beq_eq_false_iff_ne.mpr c12
 have c12b1 : (a0_0 != 13) = true := bne_iff_ne.mpr c12
 obtain ⟨t38, A45, H⟩ := bsm H
 (try dsimp only at H)
 have A19 := am A45
 clear A45
 by_cases c20 : t38 = true
 ·subst c20
  rw [if_pos rfl] at H
  by_cases c21 : a0_1 = 0
  ·rw [if_pos c21] at H
   have c21b0 : (a0_1 == 0) = true := beq_iff_eq.mpr c21
   have c21b1 : (a0_1 != 0) = false := bne_eq_false_iff_eq.mpr c21
   clear c21
   by_cases c22 : (l0_2.length : Int) = 2
   ·rw [if_pos c22] at H
    have c22b0 : ((l0_2.length : Int) == 2) = true := beq_iff_eq.mpr c22
    have c22b1 : ((l0_2.length : Int) != 2) = false := bne_eq_false_iff_eq.mpr c22
    clear c22
    by_cases c23 : 0 < (l0_2.length : Int)
    ·rw [if_pos c23] at H
     have c23b0 : decide (0 < (l0_2.length : Int)) = true := decide_eq_true c23
     have c23b1 : decide (0 < l0_2.length) = true := decide_eq_true (by omega)
     clear c23
     obtain ⟨t40, A47, H⟩ := bsm H
     (try dsimp only at H)
     have A24 := am A47
     clear A47
     by_cases c25 : t40 = true
     ·subst c25
      rw [if_pos rfl] at H
      by_cases c26 : 1 < (l0_2.length : Int)
      ·rw [if_pos c26] at H
       have c26b0 : decide (1 < (l0_2.length : Int)) = true := decide_eq_true c26
       have c26b1 : decide (1 < l0_2.length) = true := decide_eq_true (by omega)
       clear c26
       obtain ⟨t42, A48, H⟩ := bsm H
       (try dsimp only at H)
       have A27 := am A48
       clear A48
       obtain rfl := Option.some.inj H
       obtain ⟨hcz29_0, hcz29_1, hcz29_2, hfz29_0, hfz29_1, hfz29_2⟩ := bcf3_ BK43.out
       go_wp2_with (first | ((with_reducible refine gate_callee (f := 122) rfl ?_); refine gl_ 33 Tryz.func122 #[.int .i64 a0_0] ?_; (with_reducible refine (spec_OpValid.calls a0_0 true _ A19.out).mono ?_); rintro e w' ⟨rfl, ⟨nd, rfl⟩⟩; refine ⟨_, rfl, ?_⟩; have p49 : 0 ≤ (0 : Int) := (by omega); have q49 : 0 < (l0_2.length : Int) := of_decide_eq_true asm_; obtain ⟨ad49, A49_2, c49_2, e49, hx49_0, hx49_1, hx49_2, hl49_2, hi49_2⟩ := at_T56 HR0_2.out 0 p49 q49; cases e49; have qi49 : (0 < l0_2.length) = True := eq_true (by omega); (try rw [show ((0 : Int)).toNat = 0 from rfl] at hx49_0); (try rw [show 0 * 3 = 0 from rfl] at hx49_0); (try rw [Addr.add_zero'] at hx49_0); (try rw [show ((0 : Int)).toNat = 0 from rfl] at hx49_1); (try rw [show 0 * 3 = 0 from rfl] at hx49_1); (try rw [Addr.add_zero'] at hx49_1); (try rw [show ((0 : Int)).toNat = 0 from rfl] at hx49_2); (try rw [show 0 * 3 = 0 from rfl] at hx49_2); (try rw [Addr.add_zero'] at hx49_2); replace hx49_0 := (HB.out.cell (World.block_lt_of_cell? w _ hx49_0)).trans hx49_0; replace hx49_1 := (HB.out.cell (World.block_lt_of_cell? w _ hx49_1)).trans hx49_1; replace hx49_2 := (HB.out.cell (World.block_lt_of_cell? w _ hx49_2)).trans hx49_2; have HR49_2 := am hi49_2; have HC49_2 := am hl49_2; clear hi49_2 hl49_2; replace p49 := eq_true p49; replace q49 := eq_true q49) | (go_at_call 135; (with_reducible refine (ih k (by omega) ((rd_T56 l0_2 0).f0) ((rd_T56 l0_2 0).f1) _ _ ((rd_T56 l0_2 0).f2) (wrap64 (a1 - 1)) true _ (aC_ (Kd.C_below HR49_2.out ab15_)) HC49_2.out A24.out).mono ?_); rintro e w30 ⟨rfl, hb⟩; replace BK43 := am (bbl_ BK43.out hb); replace HB := am (below_step ab15_ hb); (try clear hb); obtain ⟨hcz31_0, hcz31_1, hcz31_2, hfz31_0, hfz31_1, hfz31_2⟩ := bcf3_ BK43.out; have p50 : 0 ≤ (1 : Int) := (by omega); have q50 : 1 < (l0_2.length : Int) := of_decide_eq_true asm_; obtain ⟨ad50, A50_2, c50_2, e50, hx50_0, hx50_1, hx50_2, hl50_2, hi50_2⟩ := at_T56 HR0_2.out 1 p50 q50; obtain rfl : ad49 = ad50 := (by injection e50); (try simp only [show (1 : Int).toNat = 1 from rfl, Nat.reduceMul, Nat.reduceEqDiff, Go.Addr.add, ↓reduceIte] at hx50_0); (try simp only [show (1 : Int).toNat = 1 from rfl, Nat.reduceMul, Nat.reduceEqDiff, Go.Addr.add, ↓reduceIte] at hx50_1); (try simp only [show (1 : Int).toNat = 1 from rfl, Nat.reduceMul, Nat.reduceEqDiff, Go.Addr.add, ↓reduceIte] at hx50_2); have qi50 : (1 < l0_2.length) = True := eq_true (by omega); (try rw [show ((1 : Int)).toNat = 1 from rfl] at hx50_0); (try rw [show 1 * 3 = 3 from rfl] at hx50_0); (try rw [show ((1 : Int)).toNat = 1 from rfl] at hx50_1); (try rw [show 1 * 3 = 3 from rfl] at hx50_1); (try rw [show ((1 : Int)).toNat = 1 from rfl] at hx50_2); (try rw [show 1 * 3 = 3 from rfl] at hx50_2); replace hx50_0 := (HB.out.cell (World.block_lt_of_cell? w _ hx50_0)).trans hx50_0; replace hx50_1 := (HB.out.cell (World.block_lt_of_cell? w _ hx50_1)).trans hx50_1; replace hx50_2 := (HB.out.cell (World.block_lt_of_cell? w _ hx50_2)).trans hx50_2; have HR50_2 := am hi50_2; have HC50_2 := am hl50_2; clear hi50_2 hl50_2; replace p50 := eq_true p50; replace q50 := eq_true q50) | (go_at_call 135; (with_reducible refine (ih k (by omega) ((rd_T56 l0_2 1).f0) ((rd_T56 l0_2 1).f1) _ _ ((rd_T56 l0_2 1).f2) (wrap64 (a1 - 1)) t42 _ (aC_ (Kd.C_below HR50_2.out HB.out)) HC50_2.out A27.out).mono ?_); rintro e w32 ⟨rfl, hb⟩; replace BK43 := am (bbl_ BK43.out hb); replace HB := am (below_step ab15_ hb); (try clear hb)))
       go_ret
       exact ⟨rr_, ab15_⟩
      rw [if_neg c26] at H
      exact absurd H (by simp)
     replace c25 := Bool.eq_false_iff.mpr c25
     subst c25
     rw [if_neg (show ¬ (false = true) by decide)] at H
     obtain rfl := Option.some.inj H
     obtain ⟨hcz34_0, hcz34_1, hcz34_2, hfz34_0, hfz34_1, hfz34_2⟩ := bcf3_ BK43.out
     go_wp2_with (first | ((with_reducible refine gate_callee (f := 122) rfl ?_); refine gl_ 33 Tryz.func122 #[.int .i64 a0_0] ?_; (with_reducible refine (spec_OpValid.calls a0_0 true _ A19.out).mono ?_); rintro e w' ⟨rfl, ⟨nd, rfl⟩⟩; refine ⟨_, rfl, ?_⟩; have p49 : 0 ≤ (0 : Int) := (by omega); have q49 : 0 < (l0_2.length : Int) := of_decide_eq_true asm_; obtain ⟨ad49, A49_2, c49_2, e49, hx49_0, hx49_1, hx49_2, hl49_2, hi49_2⟩ := at_T56 HR0_2.out 0 p49 q49; cases e49; have qi49 : (0 < l0_2.length) = True := eq_true (by omega); (try rw [show ((0 : Int)).toNat = 0 from rfl] at hx49_0); (try rw [show 0 * 3 = 0 from rfl] at hx49_0); (try rw [Addr.add_zero'] at hx49_0); (try rw [show ((0 : Int)).toNat = 0 from rfl] at hx49_1); (try rw [show 0 * 3 = 0 from rfl] at hx49_1); (try rw [Addr.add_zero'] at hx49_1); (try rw [show ((0 : Int)).toNat = 0 from rfl] at hx49_2); (try rw [show 0 * 3 = 0 from rfl] at hx49_2); (try rw [Addr.add_zero'] at hx49_2); replace hx49_0 := (HB.out.cell (World.block_lt_of_cell? w _ hx49_0)).trans hx49_0; replace hx49_1 := (HB.out.cell (World.block_lt_of_cell? w _ hx49_1)).trans hx49_1; replace hx49_2 := (HB.out.cell (World.block_lt_of_cell? w _ hx49_2)).trans hx49_2; have HR49_2 := am hi49_2; have HC49_2 := am hl49_2; clear hi49_2 hl49_2; replace p49 := eq_true p49; replace q49 := eq_true q49) | (go_at_call 135; (with_reducible refine (ih k (by omega) ((rd_T56 l0_2 0).f0) ((rd_T56 l0_2 0).f1) _ _ ((rd_T56 l0_2 0).f2) (wrap64 (a1 - 1)) false _ (aC_ (Kd.C_below HR49_2.out ab15_)) HC49_2.out A24.out).mono ?_); rintro e w35 ⟨rfl, hb⟩; replace BK43 := am (bbl_ BK43.out hb); replace HB := am (below_step ab15_ hb); (try clear hb)))
     go_ret
     exact ⟨rr_, ab15_⟩
    rw [if_neg c23] at H
    exact absurd H (by simp)
   rw [if_neg c22] at H
   have c22b0 : ((l0_2.length : Int) == 2) = false := beq_eq_false_iff_ne.mpr c22
   have c22b1 : ((l0_2.length : Int) != 2) = true := bne_iff_ne.mpr c22
   obtain rfl := Option.some.inj H
   obtain ⟨hcz37_0, hcz37_1, hcz37_2, hfz37_0, hfz37_1, hfz37_2⟩ := bcf3_ BK43.out
   go_wp2_with (first | ((with_reducible refine gate_callee (f := 122) rfl ?_); refine gl_ 33 Tryz.func122 #[.int .i64 a0_0] ?_; (with_reducible refine (spec_OpValid.calls a0_0 true _ A19.out).mono ?_); rintro e w' ⟨rfl, ⟨nd, rfl⟩⟩; refine ⟨_, rfl, ?_⟩))
   go_ret
   exact ⟨rr_, ab15_⟩
  rw [if_neg c21] at H
  have c21b0 : (a0_1 == 0) = false := beq_eq_false_iff_ne.mpr c21
  have c21b1 : (a0_1 != 0) = true := bne_iff_ne.mpr c21
  obtain rfl := Option.some.inj H
  obtain ⟨hcz39_0, hcz39_1, hcz39_2, hfz39_0, hfz39_1, hfz39_2⟩ := bcf3_ BK43.out
  go_wp2_with (first | ((with_reducible refine gate_callee (f := 122) rfl ?_); refine gl_ 33 Tryz.func122 #[.int .i64 a0_0] ?_; (with_reducible refine (spec_OpValid.calls a0_0 true _ A19.out).mono ?_); rintro e w' ⟨rfl, ⟨nd, rfl⟩⟩; refine ⟨_, rfl, ?_⟩))
  go_ret
  exact ⟨rr_, ab15_⟩
 replace c20 := Bool.eq_false_iff.mpr c20
 subst c20
 rw [if_neg (show ¬ (false = true) by decide)] at H
 obtain rfl := Option.some.inj H
 obtain ⟨hcz41_0, hcz41_1, hcz41_2, hfz41_0, hfz41_1, hfz41_2⟩ := bcf3_ BK43.out
 go_wp2_with (first | ((with_reducible refine gate_callee (f := 122) rfl ?_); refine gl_ 33 Tryz.func122 #[.int .i64 a0_0] ?_; (with_reducible refine (spec_OpValid.calls a0_0 false _ A19.out).mono ?_); rintro e w' ⟨rfl, ⟨nd, rfl⟩⟩; refine ⟨_, rfl, ?_⟩))
 go_ret
 exact ⟨rr_, ab15_⟩
theorem spec_ExprValid.mono : ∀ a0 a1 a2 k, LeO (spec_ExprValid.f k a0 a1 a2) (spec_ExprValid.f (k + 1) a0 a1 a2) := by
 intro a0 a1 a2 k
 unfold spec_ExprValid.f
 have m0 := @spec_l4Ok.mono
 exact mo_
theorem spec_ExprValid.calls (k : Nat) (a0_0 : Int) (a0_1 : Int) (A0_2 : Option Addr) (c0_2 : Nat) (l0_2 : List (S56)) (r : Bool) (w : World) (hr0_2 : Kd.C k56 w A0_2 l0_2.length l0_2) (hc0_2 : l0_2.length ≤ c0_2) (h : spec_ExprValid.f k a0_0 a0_1 l0_2 = some r) :
  Calls Tryz.prog 121 #[.agg #[.int .i64 a0_0, .int .i64 a0_1, .slice A0_2 l0_2.length c0_2]] w fun e w' => e = .returned (.bool r) ∧ Below w.heap.size w w' := by
 have hu56 := Tryz.underlying56
 have HR0_2 := am hr0_2
 have HC0_2 := am hc0_2
 clear hr0_2 hc0_2
 have HB := am (Below.refl w.heap.size w)
 have H : ((spec_l4Ok.f k a0_0 a0_1 l0_2 5).bind fun t21 => (some t21)) = some r := h
 clear h
 obtain ⟨t21, A2, H⟩ := bsa H
 (try dsimp only at H)
 obtain rfl := Option.some.inj H
 go_enter Tryz.func121, Tryz.ntmps121
 go_wp2_with (first | ((with_reducible refine gate_dst (N := 1) rfl ?_); refine box_event rfl (N := 1) rfl (cs := #[.int .i64 a0_0, .int .i64 a0_1, .slice A0_2 l0_2.length c0_2]) (t := 56) rn_ ?_; intro gb22 hg w3 hbox hb; have BK22 := am (hbox); have GW22 := am ((by rw [hg]; exact (below_size ab2_) : w.heap.size ≤ gb22)); have GE22 := am ((by rw [hg]; exact (below_size ab2_) : w.heap.size ≤ gb22)); replace HB := am (below_step ab2_ hb); clear hb hbox hg; obtain ⟨hcz4_0, hcz4_1, hcz4_2, hfz4_0, hfz4_1, hfz4_2⟩ := bcf3_ BK22.out) | ((with_reducible refine gate_callee (f := 135) rfl ?_); refine gl_ 4 Tryz.func135 #[.agg #[.int .i64 a0_0, .int .i64 a0_1, .slice A0_2 l0_2.length c0_2], .int .i64 5] ?_; (with_reducible refine (spec_l4Ok.calls k a0_0 a0_1 _ _ l0_2 5 t21 _ (aC_ (Kd.C_below HR0_2.out HB.out)) HC0_2.out A2.out).mono ?_); rintro e w5 ⟨rfl, hb⟩; refine ⟨_, rfl, ?_⟩; replace BK22 := am (bbl_ BK22.out hb); replace HB := am (below_step ab30_ hb); (try clear hb)))
 go_ret
 exact ⟨rr_, ab30_⟩
theorem spec_l11Var.calls (a0_0 : Int) (a0_1 : Int) (a0_2 : Int) (a0_3 : Int) (a0_4 : Int) (A0_5 : Option Addr) (c0_5 : Nat) (l0_5 : List (S56)) (A0_6 : Option Addr) (c0_6 : Nat) (l0_6 : List (S58)) (A0_7 : Option Addr) (c0_7 : Nat) (l0_7 : List (S58)) (a1 : Bool) (r : Bool) (w : World) (hr0_5 : Kd.C k56 w A0_5 l0_5.length l0_5) (hc0_5 : l0_5.length ≤ c0_5) (hr0_6 : Kd.C k58 w A0_6 l0_6.length l0_6) (hc0_6 : l0_6.length ≤ c0_6) (hr0_7 : Kd.C k58 w A0_7 l0_7.length l0_7) (hc0_7 : l0_7.length ≤ c0_7) (h : spec_l11Var.f a0_0 a0_1 a0_2 a0_3 a0_4 l0_5 l0_6 l0_7 a1 = some r) :
  Calls Tryz.prog 119 #[.agg #[.int .i64 a0_0, .int .i64 a0_1, .int .i64 a0_2, .int .i64 a0_3, .int .i64 a0_4, .slice A0_5 l0_5.length c0_5, .slice A0_6 l0_6.length c0_6, .slice A0_7 l0_7.length c0_7], .bool a1] w fun e w' => e = .returned (.bool r) ∧ Below w.heap.size w w' := by
 have hu58 := Tryz.underlying58
 have HR0_5 := am hr0_5
 have HC0_5 := am hc0_5
 clear hr0_5 hc0_5
 have HR0_6 := am hr0_6
 have HC0_6 := am hc0_6
 clear hr0_6 hc0_6
 have HR0_7 := am hr0_7
 have HC0_7 := am hc0_7
 clear hr0_7 hc0_7
 have HB := am (Below.refl w.heap.size w)
 have H : (if a1 = true then ((spec_l6In.f a0_1 0 3).bind fun t20 => (some t20)) else (some (a0_1 == 0))) = some r := h
 clear h
 have HH_ := am H
 clear H
 go_enter Tryz.func119, Tryz.ntmps119
 go_upto_region 1 with (first | ((with_reducible refine gate_dst (N := 2) rfl ?_); refine box_event rfl (N := 2) rfl (cs := #[.int .i64 a0_0, .int .i64 a0_1, .int .i64 a0_2, .int .i64 a0_3, .int .i64 a0_4, .slice A0_5 l0_5.length c0_5, .slice A0_6 l0_6.length c0_6, .slice A0_7 l0_7.length c0_7]) (t := 58) rn_ ?_; intro gb21 hg w5 hbox hb; have BK21 := am (hbox); have GW21 := am ((by rw [hg]; exact (below_size ab2_) : w.heap.size ≤ gb21)); have GE21 := am ((by rw [hg]; exact (below_size ab2_) : w.heap.size ≤ gb21)); replace HB := am (below_step ab2_ hb); clear hb hbox hg; obtain ⟨hcz6_0, hcz6_1, hcz6_2, hcz6_3, hcz6_4, hcz6_5, hcz6_6, hcz6_7, hfz6_0, hfz6_1, hfz6_2, hfz6_3, hfz6_4, hfz6_5, hfz6_6, hfz6_7⟩ := bcf8_ BK21.out))
 have H := HH_.out
 clear HH_
 by_cases c3 : a1 = true
 ·subst c3
  rw [if_pos rfl] at H
  obtain ⟨t20, A4, H⟩ := bsa H
  (try dsimp only at H)
  obtain rfl := Option.some.inj H
  go_wp2_with (first | ((with_reducible refine gate_callee (f := 46) rfl ?_); refine gl_ 8 Tryz.func46 #[.int .i64 a0_1, .int .i64 0, .int .i64 3] ?_; (with_reducible refine (spec_l6In.calls a0_1 0 3 t20 _ A4.out).mono ?_); rintro e w' ⟨rfl, ⟨nd, rfl⟩⟩; refine ⟨_, rfl, ?_⟩))
  go_ret
  exact ⟨rr_, ab44_⟩
 replace c3 := Bool.eq_false_iff.mpr c3
 subst c3
 rw [if_neg (show ¬ (false = true) by decide)] at H
 obtain rfl := Option.some.inj H
 go_wp2
 go_ret
 exact ⟨rr_, ab44_⟩
theorem spec_l11Box.calls (a0_0 : Int) (a0_1 : Int) (a0_2 : Int) (a0_3 : Int) (a0_4 : Int) (A0_5 : Option Addr) (c0_5 : Nat) (l0_5 : List (S56)) (A0_6 : Option Addr) (c0_6 : Nat) (l0_6 : List (S58)) (A0_7 : Option Addr) (c0_7 : Nat) (l0_7 : List (S58)) (a1 : Bool) (r : Bool) (w : World) (hr0_5 : Kd.C k56 w A0_5 l0_5.length l0_5) (hc0_5 : l0_5.length ≤ c0_5) (hr0_6 : Kd.C k58 w A0_6 l0_6.length l0_6) (hc0_6 : l0_6.length ≤ c0_6) (hr0_7 : Kd.C k58 w A0_7 l0_7.length l0_7) (hc0_7 : l0_7.length ≤ c0_7) (h : spec_l11Box.f a0_0 a0_1 a0_2 a0_3 a0_4 l0_5 l0_6 l0_7 a1 = some r) :
  Calls Tryz.prog 120 #[.agg #[.int .i64 a0_0, .int .i64 a0_1, .int .i64 a0_2, .int .i64 a0_3, .int .i64 a0_4, .slice A0_5 l0_5.length c0_5, .slice A0_6 l0_6.length c0_6, .slice A0_7 l0_7.length c0_7], .bool a1] w fun e w' => e = .returned (.bool r) ∧ Below w.heap.size w w' := by
 have hu58 := Tryz.underlying58
 have HR0_5 := am hr0_5
 have HC0_5 := am hc0_5
 clear hr0_5 hc0_5
 have HR0_6 := am hr0_6
 have HC0_6 := am hc0_6
 clear hr0_6 hc0_6
 have HR0_7 := am hr0_7
 have HC0_7 := am hc0_7
 clear hr0_7 hc0_7
 have HB := am (Below.refl w.heap.size w)
 have H : (if a1 = true then ((spec_l6In.f a0_2 0 2).bind fun t20 => (some t20)) else (some (a0_2 == 0))) = some r := h
 clear h
 have HH_ := am H
 clear H
 go_enter Tryz.func120, Tryz.ntmps120
 go_upto_region 1 with (first | ((with_reducible refine gate_dst (N := 2) rfl ?_); refine box_event rfl (N := 2) rfl (cs := #[.int .i64 a0_0, .int .i64 a0_1, .int .i64 a0_2, .int .i64 a0_3, .int .i64 a0_4, .slice A0_5 l0_5.length c0_5, .slice A0_6 l0_6.length c0_6, .slice A0_7 l0_7.length c0_7]) (t := 58) rn_ ?_; intro gb21 hg w5 hbox hb; have BK21 := am (hbox); have GW21 := am ((by rw [hg]; exact (below_size ab2_) : w.heap.size ≤ gb21)); have GE21 := am ((by rw [hg]; exact (below_size ab2_) : w.heap.size ≤ gb21)); replace HB := am (below_step ab2_ hb); clear hb hbox hg; obtain ⟨hcz6_0, hcz6_1, hcz6_2, hcz6_3, hcz6_4, hcz6_5, hcz6_6, hcz6_7, hfz6_0, hfz6_1, hfz6_2, hfz6_3, hfz6_4, hfz6_5, hfz6_6, hfz6_7⟩ := bcf8_ BK21.out))
 have H := HH_.out
 clear HH_
 by_cases c3 : a1 = true
 ·subst c3
  rw [if_pos rfl] at H
  obtain ⟨t20, A4, H⟩ := bsa H
  (try dsimp only at H)
  obtain rfl := Option.some.inj H
  go_wp2_with (first | ((with_reducible refine gate_callee (f := 46) rfl ?_); refine gl_ 8 Tryz.func46 #[.int .i64 a0_2, .int .i64 0, .int .i64 2] ?_; (with_reducible refine (spec_l6In.calls a0_2 0 2 t20 _ A4.out).mono ?_); rintro e w' ⟨rfl, ⟨nd, rfl⟩⟩; refine ⟨_, rfl, ?_⟩))
  go_ret
  exact ⟨rr_, ab44_⟩
 replace c3 := Bool.eq_false_iff.mpr c3
 subst c3
 rw [if_neg (show ¬ (false = true) by decide)] at H
 obtain rfl := Option.some.inj H
 go_wp2
 go_ret
 exact ⟨rr_, ab44_⟩
theorem spec_l11Plain.calls (a0_0 : Int) (a0_1 : Int) (A0_2 : Option Addr) (c0_2 : Nat) (l0_2 : List (S56)) (r : Bool) (w : World) (hr0_2 : Kd.C k56 w A0_2 l0_2.length l0_2) (hc0_2 : l0_2.length ≤ c0_2) (h : spec_l11Plain.f a0_0 a0_1 l0_2 = some r) :
  Calls Tryz.prog 134 #[.agg #[.int .i64 a0_0, .int .i64 a0_1, .slice A0_2 l0_2.length c0_2]] w fun e w' => e = .returned (.bool r) ∧ Below w.heap.size w w' := by
 have hu56 := Tryz.underlying56
 have HR0_2 := am hr0_2
 have HC0_2 := am hc0_2
 clear hr0_2 hc0_2
 have HB := am (Below.refl w.heap.size w)
 have H : (if a0_0 = 0 then (if a0_1 = 0 then (some ((l0_2.length : Int) == 0)) else (some false)) else (some false)) = some r := h
 clear h
 have HH_ := am H
 clear H
 go_enter Tryz.func134, Tryz.ntmps134
 go_upto_region 1 with (first | ((with_reducible refine gate_dst (N := 1) rfl ?_); (try (refine gate_guard (by rfl) ?_; dsimp only)); refine box_event rfl (N := 1) rfl (cs := #[.int .i64 a0_0, .int .i64 a0_1, .slice A0_2 l0_2.length c0_2]) (t := 56) rn_ ?_; intro gb20 hg w4 hbox hb; have BK20 := am (hbox); have GW20 := am ((by rw [hg]; exact (below_size ab2_) : w.heap.size ≤ gb20)); have GE20 := am ((by rw [hg]; exact (below_size ab2_) : w.heap.size ≤ gb20)); replace HB := am (below_step ab2_ hb); clear hb hbox hg; obtain ⟨hcz5_0, hcz5_1, hcz5_2, hfz5_0, hfz5_1, hfz5_2⟩ := bcf3_ BK20.out))
 have H := HH_.out
 clear HH_
 by_cases c2 : a0_0 = 0
 ·rw [if_pos c2] at H
  have c2b0 : (a0_0 == 0) = true := beq_iff_eq.mpr c2
  have c2b1 : (a0_0 != 0) = false := bne_eq_false_iff_eq.mpr c2
  clear c2
  by_cases c3 : a0_1 = 0
  ·rw [if_pos c3] at H
   have c3b0 : (a0_1 == 0) = true := beq_iff_eq.mpr c3
   have c3b1 : (a0_1 != 0) = false := bne_eq_false_iff_eq.mpr c3
   clear c3
   obtain rfl := Option.some.inj H
   go_wp2
   go_ret
   exact ⟨rr_, ab118_⟩
  rw [if_neg c3] at H
  have c3b0 : (a0_1 == 0) = false := beq_eq_false_iff_ne.mpr c3
  have c3b1 : (a0_1 != 0) = true := bne_iff_ne.mpr c3
  obtain rfl := Option.some.inj H
  go_wp2
  go_ret
  exact ⟨rr_, ab118_⟩
 rw [if_neg c2] at H
 have c2b0 : (a0_0 == 0) = false := beq_eq_false_iff_ne.mpr c2
 have c2b1 : (a0_0 != 0) = true := bne_iff_ne.mpr c2
 obtain rfl := Option.some.inj H
 go_wp2
 go_ret
 exact ⟨rr_, ab118_⟩
theorem spec_l11Simple.mono_l : ∀ k, (∀ y0 y1 y2 y3 y4 y5 y6 y7 y8, LeO (spec_l11Simple.j0 k y0 y1 y2 y3 y4 y5 y6 y7 y8) (spec_l11Simple.j0 (k + 1) y0 y1 y2 y3 y4 y5 y6 y7 y8))
 | 0 => fun _ _ _ _ _ _ _ _ _ r h => by simp [spec_l11Simple.j0] at h
 | k + 1 => by
  have ih0 := spec_l11Simple.mono_l k
  ·intro y0 y1 y2 y3 y4 y5 y6 y7 y8
   unfold spec_l11Simple.j0
   have m0 := @spec_ExprValid.mono
   exact mo_
theorem spec_l11Simple.mono : ∀ a0 a1 a2 a3 a4 a5 a6 a7 k, LeO (spec_l11Simple.f k a0 a1 a2 a3 a4 a5 a6 a7) (spec_l11Simple.f (k + 1) a0 a1 a2 a3 a4 a5 a6 a7) := by
 intro a0 a1 a2 a3 a4 a5 a6 a7 k
 have ih0 := spec_l11Simple.mono_l k
 unfold spec_l11Simple.f
 have m0 := @spec_ExprValid.mono
 exact mo_
theorem spec_l11Simple.calls (k : Nat) (a0_0 : Int) (a0_1 : Int) (a0_2 : Int) (a0_3 : Int) (a0_4 : Int) (A0_5 : Option Addr) (c0_5 : Nat) (l0_5 : List (S56)) (A0_6 : Option Addr) (c0_6 : Nat) (l0_6 : List (S58)) (A0_7 : Option Addr) (c0_7 : Nat) (l0_7 : List (S58)) (r : Bool) (w : World) (hr0_5 : Kd.C k56 w A0_5 l0_5.length l0_5) (hc0_5 : l0_5.length ≤ c0_5) (hr0_6 : Kd.C k58 w A0_6 l0_6.length l0_6) (hc0_6 : l0_6.length ≤ c0_6) (hr0_7 : Kd.C k58 w A0_7 l0_7.length l0_7) (hc0_7 : l0_7.length ≤ c0_7) (h : spec_l11Simple.f k a0_0 a0_1 a0_2 a0_3 a0_4 l0_5 l0_6 l0_7 = some r) :
  Calls Tryz.prog 118 #[.agg #[.int .i64 a0_0, .int .i64 a0_1, .int .i64 a0_2, .int .i64 a0_3, .int .i64 a0_4, .slice A0_5 l0_5.length c0_5, .slice A0_6 l0_6.length c0_6, .slice A0_7 l0_7.length c0_7]] w fun e w' => e = .returned (.bool r) ∧ Below w.heap.size w w' := by
 have hu58 := Tryz.underlying58
 have hu56 := Tryz.underlying56
 have HR0_5 := am hr0_5
 have HC0_5 := am hc0_5
 clear hr0_5 hc0_5
 have HR0_6 := am hr0_6
 have HC0_6 := am hc0_6
 clear hr0_6 hc0_6
 have HR0_7 := am hr0_7
 have HC0_7 := am hc0_7
 clear hr0_7 hc0_7
 have HB := am (Below.refl w.heap.size w)
 have H : (if (l0_6.length : Int) > 0 then (spec_l11Simple.j0 k true a0_0 a0_1 a0_2 a0_3 a0_4 l0_5 l0_6 l0_7) else (spec_l11Simple.j0 k (decide ((l0_7.length : Int) > 0)) a0_0 a0_1 a0_2 a0_3 a0_4 l0_5 l0_6 l0_7)) = some r := h
 clear h
 have HC2 := am H
 clear H
 go_enter Tryz.func118, Tryz.ntmps118
 go_upto_region 1 with (first | ((with_reducible refine gate_dst (N := 1) rfl ?_); (try (refine gate_guard (by rfl) ?_; dsimp only)); refine box_event rfl (N := 1) rfl (cs := #[.int .i64 a0_0, .int .i64 a0_1, .int .i64 a0_2, .int .i64 a0_3, .int .i64 a0_4, .slice A0_5 l0_5.length c0_5, .slice A0_6 l0_6.length c0_6, .slice A0_7 l0_7.length c0_7]) (t := 58) rn_ ?_; intro gb99 hg w3 hbox hb; have BK99 := am (hbox); have GW99 := am ((by rw [hg]; exact (below_size ab2_) : w.heap.size ≤ gb99)); have GE99 := am ((by rw [hg]; exact (below_size ab2_) : w.heap.size ≤ gb99)); replace HB := am (below_step ab2_ hb); clear hb hbox hg))
 (try simp only [Act.put, List.setIfInBounds_toArray, List.set_cons_zero, List.set_cons_succ])
 go_cut [12] (fun v12 wc => ∃ (kq : Nat) (x12_1 : Bool), v12 = .bool x12_1 ∧ Aside0 (spec_l11Simple.j0 kq x12_1 a0_0 a0_1 a0_2 a0_3 a0_4 l0_5 l0_6 l0_7 = some r) ∧ Aside0 (kq ≤ k) ∧ Aside0 (wc.heap[gb99]? = some (.cells #[.int .i64 a0_0, .int .i64 a0_1, .int .i64 a0_2, .int .i64 a0_3, .int .i64 a0_4, (.slice A0_5 l0_5.length c0_5), (.slice A0_6 l0_6.length c0_6), (.slice A0_7 l0_7.length c0_7)] 58 (0, 0))) ∧ Aside0 (Below w.heap.size w wc))
 case first =>
  have H := HC2.out
  clear HC2
  by_cases c4 : (l0_6.length : Int) > 0
  ·rw [if_pos c4] at H
   have c4b0 : decide (0 < (l0_6.length : Int)) = true := decide_eq_true c4
   have c4b1 : decide (0 < l0_6.length) = true := decide_eq_true (by omega)
   clear c4
   (first | rw [c4b0] | (simp only [i64_w, i32_w]; rw [c4b0]) | skip)
   have H' := am H
   clear H
   obtain ⟨hcz5_0, hcz5_1, hcz5_2, hcz5_3, hcz5_4, hcz5_5, hcz5_6, hcz5_7, hfz5_0, hfz5_1, hfz5_2, hfz5_3, hfz5_4, hfz5_5, hfz5_6, hfz5_7⟩ := bcf8_ BK99.out
   go_wp2
   go_meet
   case rel => exact ⟨_, (true), sd_, H', ⟨by first | omega | exact Nat.le_refl _⟩, ⟨by (with_reducible repeat (first | refine blk_drewN ?_ _ | refine blk_drew ?_ | refine blk_alloc ?_ _)); exact BK99.out⟩, ⟨ab10_⟩⟩
  rw [if_neg c4] at H
  have c4b0 : decide (0 < (l0_6.length : Int)) = false := decide_eq_false c4
  have c4b1 : decide (0 < l0_6.length) = false := decide_eq_false (by omega)
  clear c4
  (first | rw [c4b0] | (simp only [i64_w, i32_w]; rw [c4b0]) | skip)
  have H' := am H
  clear H
  obtain ⟨hcz6_0, hcz6_1, hcz6_2, hcz6_3, hcz6_4, hcz6_5, hcz6_6, hcz6_7, hfz6_0, hfz6_1, hfz6_2, hfz6_3, hfz6_4, hfz6_5, hfz6_6, hfz6_7⟩ := bcf8_ BK99.out
  go_wp2
  go_meet
  case rel => exact ⟨_, (decide ((l0_7.length : Int) > 0)), sd_, H', ⟨by first | omega | exact Nat.le_refl _⟩, ⟨by (with_reducible repeat (first | refine blk_drewN ?_ _ | refine blk_drew ?_ | refine blk_alloc ?_ _)); exact BK99.out⟩, ⟨ab10_⟩⟩
 case rest =>
  clear HC2
  obtain ⟨kq, x12_1, rfl, HA, HJ1, BK99, HB⟩ := hcut
  cases kq with
  | zero => exact absurd HA.out (by simp [spec_l11Simple.j0])
  | succ kj1 =>
   have H := HA.out
   clear HA
   simp only [spec_l11Simple.j0] at H
   by_cases c7 : x12_1 = true
   ·subst c7
    rw [if_pos rfl] at H
    obtain rfl := Option.some.inj H
    go_wp2
    go_ret
    exact ⟨rr_, ab10_⟩
   replace c7 := Bool.eq_false_iff.mpr c7
   subst c7
   rw [if_neg (show ¬ (false = true) by decide)] at H
   by_cases c8 : a0_0 = 1
   ·rw [if_pos c8] at H
    have c8b0 : (a0_0 == 1) = true := beq_iff_eq.mpr c8
    have c8b1 : (a0_0 != 1) = false := bne_eq_false_iff_eq.mpr c8
    clear c8
    obtain ⟨t100, A9, H⟩ := bsa H
    (try dsimp only at H)
    by_cases c10 : t100 = true
    ·subst c10
     rw [if_pos rfl] at H
     obtain ⟨t101, A116, H⟩ := bsm H
     (try dsimp only at H)
     have A11 := am A116
     clear A116
     by_cases c12 : t101 = true
     ·subst c12
      rw [if_pos rfl] at H
      obtain ⟨t102, A117, H⟩ := bsm H
      (try dsimp only at H)
      have A13 := am A117
      clear A117
      obtain rfl := Option.some.inj H
      obtain ⟨hcz14_0, hcz14_1, hcz14_2, hcz14_3, hcz14_4, hcz14_5, hcz14_6, hcz14_7, hfz14_0, hfz14_1, hfz14_2, hfz14_3, hfz14_4, hfz14_5, hfz14_6, hfz14_7⟩ := bcf8_ BK99.out
      go_wp2_with (first | ((with_reducible refine gate_callee (f := 119) rfl ?_); refine gl_ 18 Tryz.func119 #[.agg #[.int .i64 a0_0, .int .i64 a0_1, .int .i64 a0_2, .int .i64 a0_3, .int .i64 a0_4, .slice A0_5 l0_5.length c0_5, .slice A0_6 l0_6.length c0_6, .slice A0_7 l0_7.length c0_7], .bool true] ?_; (with_reducible refine (spec_l11Var.calls a0_0 a0_1 a0_2 a0_3 a0_4 _ _ l0_5 _ _ l0_6 _ _ l0_7 true true _ (aC_ (Kd.C_below HR0_5.out HB.out)) HC0_5.out (aC_ (Kd.C_below HR0_6.out HB.out)) HC0_6.out (aC_ (Kd.C_below HR0_7.out HB.out)) HC0_7.out A9.out).mono ?_); rintro e w15 ⟨rfl, hb⟩; refine ⟨_, rfl, ?_⟩; replace BK99 := am (bbl_ BK99.out hb); replace HB := am (below_step ab10_ hb); (try clear hb); obtain ⟨hcz16_0, hcz16_1, hcz16_2, hcz16_3, hcz16_4, hcz16_5, hcz16_6, hcz16_7, hfz16_0, hfz16_1, hfz16_2, hfz16_3, hfz16_4, hfz16_5, hfz16_6, hfz16_7⟩ := bcf8_ BK99.out) | (go_at_call 120; (with_reducible refine (spec_l11Box.calls a0_0 a0_1 a0_2 a0_3 a0_4 _ _ l0_5 _ _ l0_6 _ _ l0_7 false true _ (aC_ (Kd.C_below HR0_5.out HB.out)) HC0_5.out (aC_ (Kd.C_below HR0_6.out HB.out)) HC0_6.out (aC_ (Kd.C_below HR0_7.out HB.out)) HC0_7.out A11.out).mono ?_); rintro e w17 ⟨rfl, hb⟩; replace BK99 := am (bbl_ BK99.out hb); replace HB := am (below_step ab10_ hb); (try clear hb); obtain ⟨hcz18_0, hcz18_1, hcz18_2, hcz18_3, hcz18_4, hcz18_5, hcz18_6, hcz18_7, hfz18_0, hfz18_1, hfz18_2, hfz18_3, hfz18_4, hfz18_5, hfz18_6, hfz18_7⟩ := bcf8_ BK99.out) | (go_at_call 121; (with_reducible refine (spec_ExprValid.calls kj1 a0_3 a0_4 _ _ l0_5 t102 _ (aC_ (Kd.C_below HR0_5.out HB.out)) HC0_5.out A13.out).mono ?_); rintro e w19 ⟨rfl, hb⟩; replace BK99 := am (bbl_ BK99.out hb); replace HB := am (below_step ab10_ hb); (try clear hb)))
      go_ret
      exact ⟨rr_, ab10_⟩
     replace c12 := Bool.eq_false_iff.mpr c12
     subst c12
     rw [if_neg (show ¬ (false = true) by decide)] at H
     obtain rfl := Option.some.inj H
     obtain ⟨hcz20_0, hcz20_1, hcz20_2, hcz20_3, hcz20_4, hcz20_5, hcz20_6, hcz20_7, hfz20_0, hfz20_1, hfz20_2, hfz20_3, hfz20_4, hfz20_5, hfz20_6, hfz20_7⟩ := bcf8_ BK99.out
     go_wp2_with (first | ((with_reducible refine gate_callee (f := 119) rfl ?_); refine gl_ 18 Tryz.func119 #[.agg #[.int .i64 a0_0, .int .i64 a0_1, .int .i64 a0_2, .int .i64 a0_3, .int .i64 a0_4, .slice A0_5 l0_5.length c0_5, .slice A0_6 l0_6.length c0_6, .slice A0_7 l0_7.length c0_7], .bool true] ?_; (with_reducible refine (spec_l11Var.calls a0_0 a0_1 a0_2 a0_3 a0_4 _ _ l0_5 _ _ l0_6 _ _ l0_7 true true _ (aC_ (Kd.C_below HR0_5.out HB.out)) HC0_5.out (aC_ (Kd.C_below HR0_6.out HB.out)) HC0_6.out (aC_ (Kd.C_below HR0_7.out HB.out)) HC0_7.out A9.out).mono ?_); rintro e w21 ⟨rfl, hb⟩; refine ⟨_, rfl, ?_⟩; replace BK99 := am (bbl_ BK99.out hb); replace HB := am (below_step ab10_ hb); (try clear hb); obtain ⟨hcz22_0, hcz22_1, hcz22_2, hcz22_3, hcz22_4, hcz22_5, hcz22_6, hcz22_7, hfz22_0, hfz22_1, hfz22_2, hfz22_3, hfz22_4, hfz22_5, hfz22_6, hfz22_7⟩ := bcf8_ BK99.out) | (go_at_call 120; (with_reducible refine (spec_l11Box.calls a0_0 a0_1 a0_2 a0_3 a0_4 _ _ l0_5 _ _ l0_6 _ _ l0_7 false false _ (aC_ (Kd.C_below HR0_5.out HB.out)) HC0_5.out (aC_ (Kd.C_below HR0_6.out HB.out)) HC0_6.out (aC_ (Kd.C_below HR0_7.out HB.out)) HC0_7.out A11.out).mono ?_); rintro e w23 ⟨rfl, hb⟩; replace BK99 := am (bbl_ BK99.out hb); replace HB := am (below_step ab10_ hb); (try clear hb)))
     go_ret
     exact ⟨rr_, ab10_⟩
    replace c10 := Bool.eq_false_iff.mpr c10
    subst c10
    rw [if_neg (show ¬ (false = true) by decide)] at H
    obtain rfl := Option.some.inj H
    obtain ⟨hcz24_0, hcz24_1, hcz24_2, hcz24_3, hcz24_4, hcz24_5, hcz24_6, hcz24_7, hfz24_0, hfz24_1, hfz24_2, hfz24_3, hfz24_4, hfz24_5, hfz24_6, hfz24_7⟩ := bcf8_ BK99.out
    go_wp2_with (first | ((with_reducible refine gate_callee (f := 119) rfl ?_); refine gl_ 18 Tryz.func119 #[.agg #[.int .i64 a0_0, .int .i64 a0_1, .int .i64 a0_2, .int .i64 a0_3, .int .i64 a0_4, .slice A0_5 l0_5.length c0_5, .slice A0_6 l0_6.length c0_6, .slice A0_7 l0_7.length c0_7], .bool true] ?_; (with_reducible refine (spec_l11Var.calls a0_0 a0_1 a0_2 a0_3 a0_4 _ _ l0_5 _ _ l0_6 _ _ l0_7 true false _ (aC_ (Kd.C_below HR0_5.out HB.out)) HC0_5.out (aC_ (Kd.C_below HR0_6.out HB.out)) HC0_6.out (aC_ (Kd.C_below HR0_7.out HB.out)) HC0_7.out A9.out).mono ?_); rintro e w25 ⟨rfl, hb⟩; refine ⟨_, rfl, ?_⟩; replace BK99 := am (bbl_ BK99.out hb); replace HB := am (below_step ab10_ hb); (try clear hb)))
    go_ret
    exact ⟨rr_, ab10_⟩
   rw [if_neg c8] at H
   have c8b0 : (a0_0 == 1) = false := beq_eq_false_iff_ne.mpr c8
   have c8b1 : (a0_0 != 1) = true := bne_iff_ne.mpr c8
   by_cases c26 : a0_0 = 4
   ·rw [if_pos c26] at H
    have c26b0 : (a0_0 == 4) = true := beq_iff_eq.mpr c26
    have c26b1 : (a0_0 != 4) = false := bne_eq_false_iff_eq.mpr c26
    clear c26
    obtain ⟨t103, A122, H⟩ := bsm H
    (try dsimp only at H)
    have A27 := am A122
    clear A122
    by_cases c28 : t103 = true
    ·subst c28
     rw [if_pos rfl] at H
     obtain ⟨t104, A123, H⟩ := bsm H
     (try dsimp only at H)
     have A29 := am A123
     clear A123
     by_cases c30 : t104 = true
     ·subst c30
      rw [if_pos rfl] at H
      obtain ⟨t105, A124, H⟩ := bsm H
      (try dsimp only at H)
      have A31 := am A124
      clear A124
      obtain rfl := Option.some.inj H
      obtain ⟨hcz32_0, hcz32_1, hcz32_2, hcz32_3, hcz32_4, hcz32_5, hcz32_6, hcz32_7, hfz32_0, hfz32_1, hfz32_2, hfz32_3, hfz32_4, hfz32_5, hfz32_6, hfz32_7⟩ := bcf8_ BK99.out
      go_wp2_with (first | ((with_reducible refine gate_callee (f := 119) rfl ?_); refine gl_ 31 Tryz.func119 #[.agg #[.int .i64 a0_0, .int .i64 a0_1, .int .i64 a0_2, .int .i64 a0_3, .int .i64 a0_4, .slice A0_5 l0_5.length c0_5, .slice A0_6 l0_6.length c0_6, .slice A0_7 l0_7.length c0_7], .bool false] ?_; (with_reducible refine (spec_l11Var.calls a0_0 a0_1 a0_2 a0_3 a0_4 _ _ l0_5 _ _ l0_6 _ _ l0_7 false true _ (aC_ (Kd.C_below HR0_5.out HB.out)) HC0_5.out (aC_ (Kd.C_below HR0_6.out HB.out)) HC0_6.out (aC_ (Kd.C_below HR0_7.out HB.out)) HC0_7.out A27.out).mono ?_); rintro e w33 ⟨rfl, hb⟩; refine ⟨_, rfl, ?_⟩; replace BK99 := am (bbl_ BK99.out hb); replace HB := am (below_step ab10_ hb); (try clear hb); obtain ⟨hcz34_0, hcz34_1, hcz34_2, hcz34_3, hcz34_4, hcz34_5, hcz34_6, hcz34_7, hfz34_0, hfz34_1, hfz34_2, hfz34_3, hfz34_4, hfz34_5, hfz34_6, hfz34_7⟩ := bcf8_ BK99.out) | (go_at_call 120; (with_reducible refine (spec_l11Box.calls a0_0 a0_1 a0_2 a0_3 a0_4 _ _ l0_5 _ _ l0_6 _ _ l0_7 true true _ (aC_ (Kd.C_below HR0_5.out HB.out)) HC0_5.out (aC_ (Kd.C_below HR0_6.out HB.out)) HC0_6.out (aC_ (Kd.C_below HR0_7.out HB.out)) HC0_7.out A29.out).mono ?_); rintro e w35 ⟨rfl, hb⟩; replace BK99 := am (bbl_ BK99.out hb); replace HB := am (below_step ab10_ hb); (try clear hb); obtain ⟨hcz36_0, hcz36_1, hcz36_2, hcz36_3, hcz36_4, hcz36_5, hcz36_6, hcz36_7, hfz36_0, hfz36_1, hfz36_2, hfz36_3, hfz36_4, hfz36_5, hfz36_6, hfz36_7⟩ := bcf8_ BK99.out) | (go_at_call 121; (with_reducible refine (spec_ExprValid.calls kj1 a0_3 a0_4 _ _ l0_5 t105 _ (aC_ (Kd.C_below HR0_5.out HB.out)) HC0_5.out A31.out).mono ?_); rintro e w37 ⟨rfl, hb⟩; replace BK99 := am (bbl_ BK99.out hb); replace HB := am (below_step ab10_ hb); (try clear hb)))
      go_ret
      exact ⟨rr_, ab10_⟩
     replace c30 := Bool.eq_false_iff.mpr c30
     subst c30
     rw [if_neg (show ¬ (false = true) by decide)] at H
     obtain rfl := Option.some.inj H
     obtain ⟨hcz38_0, hcz38_1, hcz38_2, hcz38_3, hcz38_4, hcz38_5, hcz38_6, hcz38_7, hfz38_0, hfz38_1, hfz38_2, hfz38_3, hfz38_4, hfz38_5, hfz38_6, hfz38_7⟩ := bcf8_ BK99.out
     go_wp2_with (first | ((with_reducible refine gate_callee (f := 119) rfl ?_); refine gl_ 31 Tryz.func119 #[.agg #[.int .i64 a0_0, .int .i64 a0_1, .int .i64 a0_2, .int .i64 a0_3, .int .i64 a0_4, .slice A0_5 l0_5.length c0_5, .slice A0_6 l0_6.length c0_6, .slice A0_7 l0_7.length c0_7], .bool false] ?_; (with_reducible refine (spec_l11Var.calls a0_0 a0_1 a0_2 a0_3 a0_4 _ _ l0_5 _ _ l0_6 _ _ l0_7 false true _ (aC_ (Kd.C_below HR0_5.out HB.out)) HC0_5.out (aC_ (Kd.C_below HR0_6.out HB.out)) HC0_6.out (aC_ (Kd.C_below HR0_7.out HB.out)) HC0_7.out A27.out).mono ?_); rintro e w39 ⟨rfl, hb⟩; refine ⟨_, rfl, ?_⟩; replace BK99 := am (bbl_ BK99.out hb); replace HB := am (below_step ab10_ hb); (try clear hb); obtain ⟨hcz40_0, hcz40_1, hcz40_2, hcz40_3, hcz40_4, hcz40_5, hcz40_6, hcz40_7, hfz40_0, hfz40_1, hfz40_2, hfz40_3, hfz40_4, hfz40_5, hfz40_6, hfz40_7⟩ := bcf8_ BK99.out) | (go_at_call 120; (with_reducible refine (spec_l11Box.calls a0_0 a0_1 a0_2 a0_3 a0_4 _ _ l0_5 _ _ l0_6 _ _ l0_7 true false _ (aC_ (Kd.C_below HR0_5.out HB.out)) HC0_5.out (aC_ (Kd.C_below HR0_6.out HB.out)) HC0_6.out (aC_ (Kd.C_below HR0_7.out HB.out)) HC0_7.out A29.out).mono ?_); rintro e w41 ⟨rfl, hb⟩; replace BK99 := am (bbl_ BK99.out hb); replace HB := am (below_step ab10_ hb); (try clear hb)))
     go_ret
     exact ⟨rr_, ab10_⟩
    replace c28 := Bool.eq_false_iff.mpr c28
    subst c28
    rw [if_neg (show ¬ (false = true) by decide)] at H
    obtain rfl := Option.some.inj H
    obtain ⟨hcz42_0, hcz42_1, hcz42_2, hcz42_3, hcz42_4, hcz42_5, hcz42_6, hcz42_7, hfz42_0, hfz42_1, hfz42_2, hfz42_3, hfz42_4, hfz42_5, hfz42_6, hfz42_7⟩ := bcf8_ BK99.out
    go_wp2_with (first | ((with_reducible refine gate_callee (f := 119) rfl ?_); refine gl_ 31 Tryz.func119 #[.agg #[.int .i64 a0_0, .int .i64 a0_1, .int .i64 a0_2, .int .i64 a0_3, .int .i64 a0_4, .slice A0_5 l0_5.length c0_5, .slice A0_6 l0_6.length c0_6, .slice A0_7 l0_7.length c0_7], .bool false] ?_; (with_reducible refine (spec_l11Var.calls a0_0 a0_1 a0_2 a0_3 a0_4 _ _ l0_5 _ _ l0_6 _ _ l0_7 false false _ (aC_ (Kd.C_below HR0_5.out HB.out)) HC0_5.out (aC_ (Kd.C_below HR0_6.out HB.out)) HC0_6.out (aC_ (Kd.C_below HR0_7.out HB.out)) HC0_7.out A27.out).mono ?_); rintro e w43 ⟨rfl, hb⟩; refine ⟨_, rfl, ?_⟩; replace BK99 := am (bbl_ BK99.out hb); replace HB := am (below_step ab10_ hb); (try clear hb)))
    go_ret
    exact ⟨rr_, ab10_⟩
   rw [if_neg c26] at H
   have c26b0 : (a0_0 == 4) = false := beq_eq_false_iff_ne.mpr c26
   have c26b1 : (a0_0 != 4) = true := bne_iff_ne.mpr c26
   by_cases c44 : a0_0 = 5
   ·rw [if_pos c44] at H
    have c44b0 : (a0_0 == 5) = true := beq_iff_eq.mpr c44
    have c44b1 : (a0_0 != 5) = false := bne_eq_false_iff_eq.mpr c44
    clear c44
    obtain ⟨t106, A125, H⟩ := bsm H
    (try dsimp only at H)
    have A45 := am A125
    clear A125
    by_cases c46 : t106 = true
    ·subst c46
     rw [if_pos rfl] at H
     obtain ⟨t107, A126, H⟩ := bsm H
     (try dsimp only at H)
     have A47 := am A126
     clear A126
     by_cases c48 : t107 = true
     ·subst c48
      rw [if_pos rfl] at H
      obtain ⟨t108, A127, H⟩ := bsm H
      (try dsimp only at H)
      have A49 := am A127
      clear A127
      obtain rfl := Option.some.inj H
      obtain ⟨hcz50_0, hcz50_1, hcz50_2, hcz50_3, hcz50_4, hcz50_5, hcz50_6, hcz50_7, hfz50_0, hfz50_1, hfz50_2, hfz50_3, hfz50_4, hfz50_5, hfz50_6, hfz50_7⟩ := bcf8_ BK99.out
      go_wp2_with (first | ((with_reducible refine gate_callee (f := 119) rfl ?_); refine gl_ 44 Tryz.func119 #[.agg #[.int .i64 a0_0, .int .i64 a0_1, .int .i64 a0_2, .int .i64 a0_3, .int .i64 a0_4, .slice A0_5 l0_5.length c0_5, .slice A0_6 l0_6.length c0_6, .slice A0_7 l0_7.length c0_7], .bool true] ?_; (with_reducible refine (spec_l11Var.calls a0_0 a0_1 a0_2 a0_3 a0_4 _ _ l0_5 _ _ l0_6 _ _ l0_7 true true _ (aC_ (Kd.C_below HR0_5.out HB.out)) HC0_5.out (aC_ (Kd.C_below HR0_6.out HB.out)) HC0_6.out (aC_ (Kd.C_below HR0_7.out HB.out)) HC0_7.out A45.out).mono ?_); rintro e w51 ⟨rfl, hb⟩; refine ⟨_, rfl, ?_⟩; replace BK99 := am (bbl_ BK99.out hb); replace HB := am (below_step ab10_ hb); (try clear hb); obtain ⟨hcz52_0, hcz52_1, hcz52_2, hcz52_3, hcz52_4, hcz52_5, hcz52_6, hcz52_7, hfz52_0, hfz52_1, hfz52_2, hfz52_3, hfz52_4, hfz52_5, hfz52_6, hfz52_7⟩ := bcf8_ BK99.out) | (go_at_call 120; (with_reducible refine (spec_l11Box.calls a0_0 a0_1 a0_2 a0_3 a0_4 _ _ l0_5 _ _ l0_6 _ _ l0_7 true true _ (aC_ (Kd.C_below HR0_5.out HB.out)) HC0_5.out (aC_ (Kd.C_below HR0_6.out HB.out)) HC0_6.out (aC_ (Kd.C_below HR0_7.out HB.out)) HC0_7.out A47.out).mono ?_); rintro e w53 ⟨rfl, hb⟩; replace BK99 := am (bbl_ BK99.out hb); replace HB := am (below_step ab10_ hb); (try clear hb); obtain ⟨hcz54_0, hcz54_1, hcz54_2, hcz54_3, hcz54_4, hcz54_5, hcz54_6, hcz54_7, hfz54_0, hfz54_1, hfz54_2, hfz54_3, hfz54_4, hfz54_5, hfz54_6, hfz54_7⟩ := bcf8_ BK99.out) | (go_at_call 134; (with_reducible refine (spec_l11Plain.calls a0_3 a0_4 _ _ l0_5 t108 _ (aC_ (Kd.C_below HR0_5.out HB.out)) HC0_5.out A49.out).mono ?_); rintro e w55 ⟨rfl, hb⟩; replace BK99 := am (bbl_ BK99.out hb); replace HB := am (below_step ab10_ hb); (try clear hb)))
      go_ret
      exact ⟨rr_, ab10_⟩
     replace c48 := Bool.eq_false_iff.mpr c48
     subst c48
     rw [if_neg (show ¬ (false = true) by decide)] at H
     obtain rfl := Option.some.inj H
     obtain ⟨hcz56_0, hcz56_1, hcz56_2, hcz56_3, hcz56_4, hcz56_5, hcz56_6, hcz56_7, hfz56_0, hfz56_1, hfz56_2, hfz56_3, hfz56_4, hfz56_5, hfz56_6, hfz56_7⟩ := bcf8_ BK99.out
     go_wp2_with (first | ((with_reducible refine gate_callee (f := 119) rfl ?_); refine gl_ 44 Tryz.func119 #[.agg #[.int .i64 a0_0, .int .i64 a0_1, .int .i64 a0_2, .int .i64 a0_3, .int .i64 a0_4, .slice A0_5 l0_5.length c0_5, .slice A0_6 l0_6.length c0_6, .slice A0_7 l0_7.length c0_7], .bool true] ?_; (with_reducible refine (spec_l11Var.calls a0_0 a0_1 a0_2 a0_3 a0_4 _ _ l0_5 _ _ l0_6 _ _ l0_7 true true _ (aC_ (Kd.C_below HR0_5.out HB.out)) HC0_5.out (aC_ (Kd.C_below HR0_6.out HB.out)) HC0_6.out (aC_ (Kd.C_below HR0_7.out HB.out)) HC0_7.out A45.out).mono ?_); rintro e w57 ⟨rfl, hb⟩; refine ⟨_, rfl, ?_⟩; replace BK99 := am (bbl_ BK99.out hb); replace HB := am (below_step ab10_ hb); (try clear hb); obtain ⟨hcz58_0, hcz58_1, hcz58_2, hcz58_3, hcz58_4, hcz58_5, hcz58_6, hcz58_7, hfz58_0, hfz58_1, hfz58_2, hfz58_3, hfz58_4, hfz58_5, hfz58_6, hfz58_7⟩ := bcf8_ BK99.out) | (go_at_call 120; (with_reducible refine (spec_l11Box.calls a0_0 a0_1 a0_2 a0_3 a0_4 _ _ l0_5 _ _ l0_6 _ _ l0_7 true false _ (aC_ (Kd.C_below HR0_5.out HB.out)) HC0_5.out (aC_ (Kd.C_below HR0_6.out HB.out)) HC0_6.out (aC_ (Kd.C_below HR0_7.out HB.out)) HC0_7.out A47.out).mono ?_); rintro e w59 ⟨rfl, hb⟩; replace BK99 := am (bbl_ BK99.out hb); replace HB := am (below_step ab10_ hb); (try clear hb)))
     go_ret
     exact ⟨rr_, ab10_⟩
    replace c46 := Bool.eq_false_iff.mpr c46
    subst c46
    rw [if_neg (show ¬ (false = true) by decide)] at H
    obtain rfl := Option.some.inj H
    obtain ⟨hcz60_0, hcz60_1, hcz60_2, hcz60_3, hcz60_4, hcz60_5, hcz60_6, hcz60_7, hfz60_0, hfz60_1, hfz60_2, hfz60_3, hfz60_4, hfz60_5, hfz60_6, hfz60_7⟩ := bcf8_ BK99.out
    go_wp2_with (first | ((with_reducible refine gate_callee (f := 119) rfl ?_); refine gl_ 44 Tryz.func119 #[.agg #[.int .i64 a0_0, .int .i64 a0_1, .int .i64 a0_2, .int .i64 a0_3, .int .i64 a0_4, .slice A0_5 l0_5.length c0_5, .slice A0_6 l0_6.length c0_6, .slice A0_7 l0_7.length c0_7], .bool true] ?_; (with_reducible refine (spec_l11Var.calls a0_0 a0_1 a0_2 a0_3 a0_4 _ _ l0_5 _ _ l0_6 _ _ l0_7 true false _ (aC_ (Kd.C_below HR0_5.out HB.out)) HC0_5.out (aC_ (Kd.C_below HR0_6.out HB.out)) HC0_6.out (aC_ (Kd.C_below HR0_7.out HB.out)) HC0_7.out A45.out).mono ?_); rintro e w61 ⟨rfl, hb⟩; refine ⟨_, rfl, ?_⟩; replace BK99 := am (bbl_ BK99.out hb); replace HB := am (below_step ab10_ hb); (try clear hb)))
    go_ret
    exact ⟨rr_, ab10_⟩
   rw [if_neg c44] at H
   have c44b0 : (a0_0 == 5) = false := beq_eq_false_iff_ne.mpr c44
   have c44b1 : (a0_0 != 5) = true := bne_iff_ne.mpr c44
   by_cases c62 : a0_0 = 6
   ·rw [if_pos c62] at H
    have c62b0 : (a0_0 == 6) = true := beq_iff_eq.mpr c62
    have c62b1 : (a0_0 != 6) = false := bne_eq_false_iff_eq.mpr c62
    clear c62
    obtain ⟨t109, A128, H⟩ := bsm H
    (try dsimp only at H)
    have A63 := am A128
    clear A128
    by_cases c64 : t109 = true
    ·subst c64
     rw [if_pos rfl] at H
     obtain ⟨t111, A129, H⟩ := bsm H
     (try dsimp only at H)
     have A65 := am A129
     clear A129
     by_cases c66 : t111 = true
     ·subst c66
      rw [if_pos rfl] at H
      obtain ⟨t112, A131, H⟩ := bsm H
      (try dsimp only at H)
      have A67 := am A131
      clear A131
      obtain rfl := Option.some.inj H
      obtain ⟨hcz68_0, hcz68_1, hcz68_2, hcz68_3, hcz68_4, hcz68_5, hcz68_6, hcz68_7, hfz68_0, hfz68_1, hfz68_2, hfz68_3, hfz68_4, hfz68_5, hfz68_6, hfz68_7⟩ := bcf8_ BK99.out
      go_wp2_with (first | ((with_reducible refine gate_callee (f := 119) rfl ?_); refine gl_ 57 Tryz.func119 #[.agg #[.int .i64 a0_0, .int .i64 a0_1, .int .i64 a0_2, .int .i64 a0_3, .int .i64 a0_4, .slice A0_5 l0_5.length c0_5, .slice A0_6 l0_6.length c0_6, .slice A0_7 l0_7.length c0_7], .bool false] ?_; (with_reducible refine (spec_l11Var.calls a0_0 a0_1 a0_2 a0_3 a0_4 _ _ l0_5 _ _ l0_6 _ _ l0_7 false true _ (aC_ (Kd.C_below HR0_5.out HB.out)) HC0_5.out (aC_ (Kd.C_below HR0_6.out HB.out)) HC0_6.out (aC_ (Kd.C_below HR0_7.out HB.out)) HC0_7.out A63.out).mono ?_); rintro e w69 ⟨rfl, hb⟩; refine ⟨_, rfl, ?_⟩; replace BK99 := am (bbl_ BK99.out hb); replace HB := am (below_step ab10_ hb); (try clear hb); obtain ⟨hcz70_0, hcz70_1, hcz70_2, hcz70_3, hcz70_4, hcz70_5, hcz70_6, hcz70_7, hfz70_0, hfz70_1, hfz70_2, hfz70_3, hfz70_4, hfz70_5, hfz70_6, hfz70_7⟩ := bcf8_ BK99.out) | (go_at_call 120; (with_reducible refine (spec_l11Box.calls a0_0 a0_1 a0_2 a0_3 a0_4 _ _ l0_5 _ _ l0_6 _ _ l0_7 false true _ (aC_ (Kd.C_below HR0_5.out HB.out)) HC0_5.out (aC_ (Kd.C_below HR0_6.out HB.out)) HC0_6.out (aC_ (Kd.C_below HR0_7.out HB.out)) HC0_7.out A65.out).mono ?_); rintro e w71 ⟨rfl, hb⟩; replace BK99 := am (bbl_ BK99.out hb); replace HB := am (below_step ab10_ hb); (try clear hb); obtain ⟨hcz72_0, hcz72_1, hcz72_2, hcz72_3, hcz72_4, hcz72_5, hcz72_6, hcz72_7, hfz72_0, hfz72_1, hfz72_2, hfz72_3, hfz72_4, hfz72_5, hfz72_6, hfz72_7⟩ := bcf8_ BK99.out) | (go_at_call 134; (with_reducible refine (spec_l11Plain.calls a0_3 a0_4 _ _ l0_5 t112 _ (aC_ (Kd.C_below HR0_5.out HB.out)) HC0_5.out A67.out).mono ?_); rintro e w73 ⟨rfl, hb⟩; replace BK99 := am (bbl_ BK99.out hb); replace HB := am (below_step ab10_ hb); (try clear hb)))
      go_ret
      exact ⟨rr_, ab10_⟩
     replace c66 := Bool.eq_false_iff.mpr c66
     subst c66
     rw [if_neg (show ¬ (false = true) by decide)] at H
     obtain rfl := Option.some.inj H
     obtain ⟨hcz74_0, hcz74_1, hcz74_2, hcz74_3, hcz74_4, hcz74_5, hcz74_6, hcz74_7, hfz74_0, hfz74_1, hfz74_2, hfz74_3, hfz74_4, hfz74_5, hfz74_6, hfz74_7⟩ := bcf8_ BK99.out
     go_wp2_with (first | ((with_reducible refine gate_callee (f := 119) rfl ?_); refine gl_ 57 Tryz.func119 #[.agg #[.int .i64 a0_0, .int .i64 a0_1, .int .i64 a0_2, .int .i64 a0_3, .int .i64 a0_4, .slice A0_5 l0_5.length c0_5, .slice A0_6 l0_6.length c0_6, .slice A0_7 l0_7.length c0_7], .bool false] ?_; (with_reducible refine (spec_l11Var.calls a0_0 a0_1 a0_2 a0_3 a0_4 _ _ l0_5 _ _ l0_6 _ _ l0_7 false true _ (aC_ (Kd.C_below HR0_5.out HB.out)) HC0_5.out (aC_ (Kd.C_below HR0_6.out HB.out)) HC0_6.out (aC_ (Kd.C_below HR0_7.out HB.out)) HC0_7.out A63.out).mono ?_); rintro e w75 ⟨rfl, hb⟩; refine ⟨_, rfl, ?_⟩; replace BK99 := am (bbl_ BK99.out hb); replace HB := am (below_step ab10_ hb); (try clear hb); obtain ⟨hcz76_0, hcz76_1, hcz76_2, hcz76_3, hcz76_4, hcz76_5, hcz76_6, hcz76_7, hfz76_0, hfz76_1, hfz76_2, hfz76_3, hfz76_4, hfz76_5, hfz76_6, hfz76_7⟩ := bcf8_ BK99.out) | (go_at_call 120; (with_reducible refine (spec_l11Box.calls a0_0 a0_1 a0_2 a0_3 a0_4 _ _ l0_5 _ _ l0_6 _ _ l0_7 false false _ (aC_ (Kd.C_below HR0_5.out HB.out)) HC0_5.out (aC_ (Kd.C_below HR0_6.out HB.out)) HC0_6.out (aC_ (Kd.C_below HR0_7.out HB.out)) HC0_7.out A65.out).mono ?_); rintro e w77 ⟨rfl, hb⟩; replace BK99 := am (bbl_ BK99.out hb); replace HB := am (below_step ab10_ hb); (try clear hb)))
     go_ret
     exact ⟨rr_, ab10_⟩
    replace c64 := Bool.eq_false_iff.mpr c64
    subst c64
    rw [if_neg (show ¬ (false = true) by decide)] at H
    obtain rfl := Option.some.inj H
    obtain ⟨hcz78_0, hcz78_1, hcz78_2, hcz78_3, hcz78_4, hcz78_5, hcz78_6, hcz78_7, hfz78_0, hfz78_1, hfz78_2, hfz78_3, hfz78_4, hfz78_5, hfz78_6, hfz78_7⟩ := bcf8_ BK99.out
    go_wp2_with (first | ((with_reducible refine gate_callee (f := 119) rfl ?_); refine gl_ 57 Tryz.func119 #[.agg #[.int .i64 a0_0, .int .i64 a0_1, .int .i64 a0_2, .int .i64 a0_3, .int .i64 a0_4, .slice A0_5 l0_5.length c0_5, .slice A0_6 l0_6.length c0_6, .slice A0_7 l0_7.length c0_7], .bool false] ?_; (with_reducible refine (spec_l11Var.calls a0_0 a0_1 a0_2 a0_3 a0_4 _ _ l0_5 _ _ l0_6 _ _ l0_7 false false _ (aC_ (Kd.C_below HR0_5.out HB.out)) HC0_5.out (aC_ (Kd.C_below HR0_6.out HB.out)) HC0_6.out (aC_ (Kd.C_below HR0_7.out HB.out)) HC0_7.out A63.out).mono ?_); rintro e w79 ⟨rfl, hb⟩; refine ⟨_, rfl, ?_⟩; replace BK99 := am (bbl_ BK99.out hb); replace HB := am (below_step ab10_ hb); (try clear hb)))
    go_ret
    exact ⟨rr_, ab10_⟩
   rw [if_neg c62] at H
   have c62b0 : (a0_0 == 6) = false := beq_eq_false_iff_ne.mpr c62
   have c62b1 : (a0_0 != 6) = true := bne_iff_ne.mpr c62
   by_cases c80 : a0_0 = 7
   ·rw [if_pos c80] at H
    have c80b0 : (a0_0 == 7) = true := beq_iff_eq.mpr c80
    have c80b1 : (a0_0 != 7) = false := bne_eq_false_iff_eq.mpr c80
    clear c80
    obtain ⟨t113, A132, H⟩ := bsm H
    (try dsimp only at H)
    have A81 := am A132
    clear A132
    by_cases c82 : t113 = true
    ·subst c82
     rw [if_pos rfl] at H
     obtain ⟨t114, A133, H⟩ := bsm H
     (try dsimp only at H)
     have A83 := am A133
     clear A133
     by_cases c84 : t114 = true
     ·subst c84
      rw [if_pos rfl] at H
      obtain ⟨t115, A135, H⟩ := bsm H
      (try dsimp only at H)
      have A85 := am A135
      clear A135
      obtain rfl := Option.some.inj H
      obtain ⟨hcz86_0, hcz86_1, hcz86_2, hcz86_3, hcz86_4, hcz86_5, hcz86_6, hcz86_7, hfz86_0, hfz86_1, hfz86_2, hfz86_3, hfz86_4, hfz86_5, hfz86_6, hfz86_7⟩ := bcf8_ BK99.out
      go_wp2_with (first | ((with_reducible refine gate_callee (f := 119) rfl ?_); refine gl_ 70 Tryz.func119 #[.agg #[.int .i64 a0_0, .int .i64 a0_1, .int .i64 a0_2, .int .i64 a0_3, .int .i64 a0_4, .slice A0_5 l0_5.length c0_5, .slice A0_6 l0_6.length c0_6, .slice A0_7 l0_7.length c0_7], .bool false] ?_; (with_reducible refine (spec_l11Var.calls a0_0 a0_1 a0_2 a0_3 a0_4 _ _ l0_5 _ _ l0_6 _ _ l0_7 false true _ (aC_ (Kd.C_below HR0_5.out HB.out)) HC0_5.out (aC_ (Kd.C_below HR0_6.out HB.out)) HC0_6.out (aC_ (Kd.C_below HR0_7.out HB.out)) HC0_7.out A81.out).mono ?_); rintro e w87 ⟨rfl, hb⟩; refine ⟨_, rfl, ?_⟩; replace BK99 := am (bbl_ BK99.out hb); replace HB := am (below_step ab10_ hb); (try clear hb); obtain ⟨hcz88_0, hcz88_1, hcz88_2, hcz88_3, hcz88_4, hcz88_5, hcz88_6, hcz88_7, hfz88_0, hfz88_1, hfz88_2, hfz88_3, hfz88_4, hfz88_5, hfz88_6, hfz88_7⟩ := bcf8_ BK99.out) | (go_at_call 120; (with_reducible refine (spec_l11Box.calls a0_0 a0_1 a0_2 a0_3 a0_4 _ _ l0_5 _ _ l0_6 _ _ l0_7 false true _ (aC_ (Kd.C_below HR0_5.out HB.out)) HC0_5.out (aC_ (Kd.C_below HR0_6.out HB.out)) HC0_6.out (aC_ (Kd.C_below HR0_7.out HB.out)) HC0_7.out A83.out).mono ?_); rintro e w89 ⟨rfl, hb⟩; replace BK99 := am (bbl_ BK99.out hb); replace HB := am (below_step ab10_ hb); (try clear hb); obtain ⟨hcz90_0, hcz90_1, hcz90_2, hcz90_3, hcz90_4, hcz90_5, hcz90_6, hcz90_7, hfz90_0, hfz90_1, hfz90_2, hfz90_3, hfz90_4, hfz90_5, hfz90_6, hfz90_7⟩ := bcf8_ BK99.out) | (go_at_call 121; (with_reducible refine (spec_ExprValid.calls kj1 a0_3 a0_4 _ _ l0_5 t115 _ (aC_ (Kd.C_below HR0_5.out HB.out)) HC0_5.out A85.out).mono ?_); rintro e w91 ⟨rfl, hb⟩; replace BK99 := am (bbl_ BK99.out hb); replace HB := am (below_step ab10_ hb); (try clear hb)))
      go_ret
      exact ⟨rr_, ab10_⟩
     replace c84 := Bool.eq_false_iff.mpr c84
     subst c84
     rw [if_neg (show ¬ (false = true) by decide)] at H
     obtain rfl := Option.some.inj H
     obtain ⟨hcz92_0, hcz92_1, hcz92_2, hcz92_3, hcz92_4, hcz92_5, hcz92_6, hcz92_7, hfz92_0, hfz92_1, hfz92_2, hfz92_3, hfz92_4, hfz92_5, hfz92_6, hfz92_7⟩ := bcf8_ BK99.out
     go_wp2_with (first | ((with_reducible refine gate_callee (f := 119) rfl ?_); refine gl_ 70 Tryz.func119 #[.agg #[.int .i64 a0_0, .int .i64 a0_1, .int .i64 a0_2, .int .i64 a0_3, .int .i64 a0_4, .slice A0_5 l0_5.length c0_5, .slice A0_6 l0_6.length c0_6, .slice A0_7 l0_7.length c0_7], .bool false] ?_; (with_reducible refine (spec_l11Var.calls a0_0 a0_1 a0_2 a0_3 a0_4 _ _ l0_5 _ _ l0_6 _ _ l0_7 false true _ (aC_ (Kd.C_below HR0_5.out HB.out)) HC0_5.out (aC_ (Kd.C_below HR0_6.out HB.out)) HC0_6.out (aC_ (Kd.C_below HR0_7.out HB.out)) HC0_7.out A81.out).mono ?_); rintro e w93 ⟨rfl, hb⟩; refine ⟨_, rfl, ?_⟩; replace BK99 := am (bbl_ BK99.out hb); replace HB := am (below_step ab10_ hb); (try clear hb); obtain ⟨hcz94_0, hcz94_1, hcz94_2, hcz94_3, hcz94_4, hcz94_5, hcz94_6, hcz94_7, hfz94_0, hfz94_1, hfz94_2, hfz94_3, hfz94_4, hfz94_5, hfz94_6, hfz94_7⟩ := bcf8_ BK99.out) | (go_at_call 120; (with_reducible refine (spec_l11Box.calls a0_0 a0_1 a0_2 a0_3 a0_4 _ _ l0_5 _ _ l0_6 _ _ l0_7 false false _ (aC_ (Kd.C_below HR0_5.out HB.out)) HC0_5.out (aC_ (Kd.C_below HR0_6.out HB.out)) HC0_6.out (aC_ (Kd.C_below HR0_7.out HB.out)) HC0_7.out A83.out).mono ?_); rintro e w95 ⟨rfl, hb⟩; replace BK99 := am (bbl_ BK99.out hb); replace HB := am (below_step ab10_ hb); (try clear hb)))
     go_ret
     exact ⟨rr_, ab10_⟩
    replace c82 := Bool.eq_false_iff.mpr c82
    subst c82
    rw [if_neg (show ¬ (false = true) by decide)] at H
    obtain rfl := Option.some.inj H
    obtain ⟨hcz96_0, hcz96_1, hcz96_2, hcz96_3, hcz96_4, hcz96_5, hcz96_6, hcz96_7, hfz96_0, hfz96_1, hfz96_2, hfz96_3, hfz96_4, hfz96_5, hfz96_6, hfz96_7⟩ := bcf8_ BK99.out
    go_wp2_with (first | ((with_reducible refine gate_callee (f := 119) rfl ?_); refine gl_ 70 Tryz.func119 #[.agg #[.int .i64 a0_0, .int .i64 a0_1, .int .i64 a0_2, .int .i64 a0_3, .int .i64 a0_4, .slice A0_5 l0_5.length c0_5, .slice A0_6 l0_6.length c0_6, .slice A0_7 l0_7.length c0_7], .bool false] ?_; (with_reducible refine (spec_l11Var.calls a0_0 a0_1 a0_2 a0_3 a0_4 _ _ l0_5 _ _ l0_6 _ _ l0_7 false false _ (aC_ (Kd.C_below HR0_5.out HB.out)) HC0_5.out (aC_ (Kd.C_below HR0_6.out HB.out)) HC0_6.out (aC_ (Kd.C_below HR0_7.out HB.out)) HC0_7.out A81.out).mono ?_); rintro e w97 ⟨rfl, hb⟩; refine ⟨_, rfl, ?_⟩; replace BK99 := am (bbl_ BK99.out hb); replace HB := am (below_step ab10_ hb); (try clear hb)))
    go_ret
    exact ⟨rr_, ab10_⟩
   rw [if_neg c80] at H
   have c80b0 : (a0_0 == 7) = false := beq_eq_false_iff_ne.mpr c80
   have c80b1 : (a0_0 != 7) = true := bne_iff_ne.mpr c80
   obtain rfl := Option.some.inj H
   obtain ⟨hcz98_0, hcz98_1, hcz98_2, hcz98_3, hcz98_4, hcz98_5, hcz98_6, hcz98_7, hfz98_0, hfz98_1, hfz98_2, hfz98_3, hfz98_4, hfz98_5, hfz98_6, hfz98_7⟩ := bcf8_ BK99.out
   go_wp2
   go_ret
   exact ⟨rr_, ab10_⟩
theorem spec_l11Ok.mono_all : ∀ k, (∀ y0 y1 y2 y3 y4 y5 y6 y7 y8, LeO (spec_l11Ok.f k y0 y1 y2 y3 y4 y5 y6 y7 y8) (spec_l11Ok.f (k + 1) y0 y1 y2 y3 y4 y5 y6 y7 y8)) ∧ (∀ y0 y1 y2 y3 y4 y5 y6 y7 y8 y9, LeO (spec_l11Ok.j0 k y0 y1 y2 y3 y4 y5 y6 y7 y8 y9) (spec_l11Ok.j0 (k + 1) y0 y1 y2 y3 y4 y5 y6 y7 y8 y9)) ∧ (∀ y0 y1 y2 y3 y4 y5 y6 y7 y8 y9, LeO (spec_l11Ok.j1 k y0 y1 y2 y3 y4 y5 y6 y7 y8 y9) (spec_l11Ok.j1 (k + 1) y0 y1 y2 y3 y4 y5 y6 y7 y8 y9)) ∧ (∀ y0 y1, LeO (spec_l11Blocks.f k y0 y1) (spec_l11Blocks.f (k + 1) y0 y1)) ∧ (∀ y0 y1 y2, LeO (spec_l11Blocks.l0 k y0 y1 y2) (spec_l11Blocks.l0 (k + 1) y0 y1 y2))
 | 0 => ⟨fun _ _ _ _ _ _ _ _ _ r h => by simp [spec_l11Ok.f] at h, fun _ _ _ _ _ _ _ _ _ _ r h => by simp [spec_l11Ok.j0] at h, fun _ _ _ _ _ _ _ _ _ _ r h => by simp [spec_l11Ok.j1] at h, fun _ _ r h => by simp [spec_l11Blocks.f] at h, fun _ _ _ r h => by simp [spec_l11Blocks.l0] at h⟩
 | k + 1 => by
  obtain ⟨ih0, ih1, ih2, ih3, ih4⟩ := spec_l11Ok.mono_all k
  refine ⟨?_, ?_, ?_, ?_, ?_⟩
  ·intro y0 y1 y2 y3 y4 y5 y6 y7 y8
   unfold spec_l11Ok.f
   have m0 := @spec_ExprValid.mono
   have m1 := @spec_l11Simple.mono
   exact mo_
  ·intro y0 y1 y2 y3 y4 y5 y6 y7 y8 y9
   unfold spec_l11Ok.j0
   have m0 := @spec_ExprValid.mono
   have m1 := @spec_l11Simple.mono
   exact mo_
  ·intro y0 y1 y2 y3 y4 y5 y6 y7 y8 y9
   unfold spec_l11Ok.j1
   have m0 := @spec_ExprValid.mono
   have m1 := @spec_l11Simple.mono
   exact mo_
  ·intro y0 y1
   unfold spec_l11Blocks.f
   have m0 := @spec_ExprValid.mono
   have m1 := @spec_l11Simple.mono
   exact mo_
  ·intro y0 y1 y2
   unfold spec_l11Blocks.l0
   have m0 := @spec_ExprValid.mono
   have m1 := @spec_l11Simple.mono
   exact mo_
theorem spec_l11Ok.mono : ∀ a0 a1 a2 a3 a4 a5 a6 a7 a8 k, LeO (spec_l11Ok.f k a0 a1 a2 a3 a4 a5 a6 a7 a8) (spec_l11Ok.f (k + 1) a0 a1 a2 a3 a4 a5 a6 a7 a8) := by
 intro a0 a1 a2 a3 a4 a5 a6 a7 a8 k
 obtain ⟨ih0, ih1, ih2, ih3, ih4⟩ := spec_l11Ok.mono_all k
 exact ih0 a0 a1 a2 a3 a4 a5 a6 a7 a8
theorem spec_l11Blocks.mono : ∀ a0 a1 k, LeO (spec_l11Blocks.f k a0 a1) (spec_l11Blocks.f (k + 1) a0 a1) := by
 intro a0 a1 k
 obtain ⟨ih0, ih1, ih2, ih3, ih4⟩ := spec_l11Ok.mono_all k
 exact ih3 a0 a1
abbrev spec_l11Ok.CallsAt (k : Nat) : Prop := ∀ (a0_0 : Int) (a0_1 : Int) (a0_2 : Int) (a0_3 : Int) (a0_4 : Int) (A0_5 : Option Addr) (c0_5 : Nat) (l0_5 : List (S56)) (A0_6 : Option Addr) (c0_6 : Nat) (l0_6 : List (S58)) (A0_7 : Option Addr) (c0_7 : Nat) (l0_7 : List (S58)) (a1 : Int) (r : Bool) (w : World) (hr0_5 : Kd.C k56 w A0_5 l0_5.length l0_5) (hc0_5 : l0_5.length ≤ c0_5) (hr0_6 : Kd.C k58 w A0_6 l0_6.length l0_6) (hc0_6 : l0_6.length ≤ c0_6) (hr0_7 : Kd.C k58 w A0_7 l0_7.length l0_7) (hc0_7 : l0_7.length ≤ c0_7) (h : spec_l11Ok.f k a0_0 a0_1 a0_2 a0_3 a0_4 l0_5 l0_6 l0_7 a1 = some r),
  Calls Tryz.prog 93 #[.agg #[.int .i64 a0_0, .int .i64 a0_1, .int .i64 a0_2, .int .i64 a0_3, .int .i64 a0_4, .slice A0_5 l0_5.length c0_5, .slice A0_6 l0_6.length c0_6, .slice A0_7 l0_7.length c0_7], .int .i64 a1] w fun e w' => e = .returned (.bool r) ∧ Below w.heap.size w w'
abbrev spec_l11Blocks.CallsAt (k : Nat) : Prop := ∀ (A0 : Option Addr) (c0 : Nat) (l0 : List (S58)) (a1 : Int) (r : Bool) (w : World) (hr0 : Kd.C k58 w A0 l0.length l0) (hc0 : l0.length ≤ c0) (h : spec_l11Blocks.f k l0 a1 = some r),
  Calls Tryz.prog 70 #[.slice A0 l0.length c0, .int .i64 a1] w fun e w' => e = .returned (.bool r) ∧ Below w.heap.size w w'
theorem spec_l11Ok.step (k : Nat) (ih_spec_l11Ok : ∀ m, m < k → spec_l11Ok.CallsAt m) (ih_spec_l11Blocks : ∀ m, m < k → spec_l11Blocks.CallsAt m) : spec_l11Ok.CallsAt k := by
 intro a0_0 a0_1 a0_2 a0_3 a0_4 A0_5 c0_5 l0_5 A0_6 c0_6 l0_6 A0_7 c0_7 l0_7 a1 r w hr0_5 hc0_5 hr0_6 hc0_6 hr0_7 hc0_7 h
 cases k with
 | zero => exact absurd h (by simp [spec_l11Ok.f])
 | succ k =>
 simp only [spec_l11Ok.f] at h
 have hu58 := Tryz.underlying58
 have hu56 := Tryz.underlying56
 have HR0_5 := am hr0_5
 have HC0_5 := am hc0_5
 clear hr0_5 hc0_5
 have HR0_6 := am hr0_6
 have HC0_6 := am hc0_6
 clear hr0_6 hc0_6
 have HR0_7 := am hr0_7
 have HC0_7 := am hc0_7
 clear hr0_7 hc0_7
 have HB := am (Below.refl w.heap.size w)
 have H : (if a0_0 = 2 then (spec_l11Ok.j0 k a1 false a0_0 a0_1 a0_2 a0_3 a0_4 l0_5 l0_6 l0_7) else (spec_l11Ok.j0 k a1 (a0_0 != 3) a0_0 a0_1 a0_2 a0_3 a0_4 l0_5 l0_6 l0_7)) = some r := h
 clear h
 have HC3 := am H
 clear H
 go_enter Tryz.func93, Tryz.ntmps93
 go_upto_region 1 with (first | ((with_reducible refine gate_dst (N := 2) rfl ?_); (try (refine gate_guard (by rfl) ?_; dsimp only)); refine box_event rfl (N := 2) rfl (cs := #[.int .i64 a0_0, .int .i64 a0_1, .int .i64 a0_2, .int .i64 a0_3, .int .i64 a0_4, .slice A0_5 l0_5.length c0_5, .slice A0_6 l0_6.length c0_6, .slice A0_7 l0_7.length c0_7]) (t := 58) rn_ ?_; intro gb57 hg w4 hbox hb; have BK57 := am (hbox); have GW57 := am ((by rw [hg]; exact (below_size ab2_) : w.heap.size ≤ gb57)); have GE57 := am ((by rw [hg]; exact (below_size ab2_) : w.heap.size ≤ gb57)); replace HB := am (below_step ab2_ hb); clear hb hbox hg))
 (try simp only [Act.put, List.setIfInBounds_toArray, List.set_cons_zero, List.set_cons_succ])
 go_cut [12] (fun v12 wc => ∃ (kq : Nat) (x12_2 : Bool), v12 = .bool x12_2 ∧ Aside0 (spec_l11Ok.j0 kq a1 x12_2 a0_0 a0_1 a0_2 a0_3 a0_4 l0_5 l0_6 l0_7 = some r) ∧ Aside0 (kq ≤ k) ∧ Aside0 (wc.heap[gb57]? = some (.cells #[.int .i64 a0_0, .int .i64 a0_1, .int .i64 a0_2, .int .i64 a0_3, .int .i64 a0_4, (.slice A0_5 l0_5.length c0_5), (.slice A0_6 l0_6.length c0_6), (.slice A0_7 l0_7.length c0_7)] 58 (0, 0))) ∧ Aside0 (Below w.heap.size w wc))
 case first =>
  have H := HC3.out
  clear HC3
  by_cases c5 : a0_0 = 2
  ·rw [if_pos c5] at H
   have c5b0 : (a0_0 == 2) = true := beq_iff_eq.mpr c5
   have c5b1 : (a0_0 != 2) = false := bne_eq_false_iff_eq.mpr c5
   clear c5
   (first | rw [c5b0] | (simp only [i64_w, i32_w]; rw [c5b0]) | skip)
   have H' := am H
   clear H
   obtain ⟨hcz6_0, hcz6_1, hcz6_2, hcz6_3, hcz6_4, hcz6_5, hcz6_6, hcz6_7, hfz6_0, hfz6_1, hfz6_2, hfz6_3, hfz6_4, hfz6_5, hfz6_6, hfz6_7⟩ := bcf8_ BK57.out
   go_wp2
   go_meet
   case rel => exact ⟨_, (false), sd_, H', ⟨by first | omega | exact Nat.le_refl _⟩, ⟨by (with_reducible repeat (first | refine blk_drewN ?_ _ | refine blk_drew ?_ | refine blk_alloc ?_ _)); exact BK57.out⟩, ⟨ab25_⟩⟩
  rw [if_neg c5] at H
  have c5b0 : (a0_0 == 2) = false := beq_eq_false_iff_ne.mpr c5
  have c5b1 : (a0_0 != 2) = true := bne_iff_ne.mpr c5
  (first | rw [c5b0] | (simp only [i64_w, i32_w]; rw [c5b0]) | skip)
  have H' := am H
  clear H
  obtain ⟨hcz7_0, hcz7_1, hcz7_2, hcz7_3, hcz7_4, hcz7_5, hcz7_6, hcz7_7, hfz7_0, hfz7_1, hfz7_2, hfz7_3, hfz7_4, hfz7_5, hfz7_6, hfz7_7⟩ := bcf8_ BK57.out
  go_wp2
  go_meet
  case rel => exact ⟨_, ((a0_0 != 3)), sd_, H', ⟨by first | omega | exact Nat.le_refl _⟩, ⟨by (with_reducible repeat (first | refine blk_drewN ?_ _ | refine blk_drew ?_ | refine blk_alloc ?_ _)); exact BK57.out⟩, ⟨ab25_⟩⟩
 case rest =>
  clear HC3
  obtain ⟨kq, x12_2, rfl, HA, HJ2, BK57, HB⟩ := hcut
  cases kq with
  | zero => exact absurd HA.out (by simp [spec_l11Ok.j0])
  | succ kj2 =>
   have H := HA.out
   clear HA
   simp only [spec_l11Ok.j0] at H
   by_cases c8 : x12_2 = true
   ·subst c8
    rw [if_pos rfl] at H
    obtain ⟨t59, A9, H⟩ := bsa H
    (try dsimp only at H)
    obtain rfl := Option.some.inj H
    obtain ⟨hcz10_0, hcz10_1, hcz10_2, hcz10_3, hcz10_4, hcz10_5, hcz10_6, hcz10_7, hfz10_0, hfz10_1, hfz10_2, hfz10_3, hfz10_4, hfz10_5, hfz10_6, hfz10_7⟩ := bcf8_ BK57.out
    go_wp2_with (first | ((with_reducible refine gate_callee (f := 118) rfl ?_); refine gl_ 14 Tryz.func118 #[.agg #[.int .i64 a0_0, .int .i64 a0_1, .int .i64 a0_2, .int .i64 a0_3, .int .i64 a0_4, .slice A0_5 l0_5.length c0_5, .slice A0_6 l0_6.length c0_6, .slice A0_7 l0_7.length c0_7]] ?_; (with_reducible refine (spec_l11Simple.calls kj2 a0_0 a0_1 a0_2 a0_3 a0_4 _ _ l0_5 _ _ l0_6 _ _ l0_7 t59 _ (aC_ (Kd.C_below HR0_5.out HB.out)) HC0_5.out (aC_ (Kd.C_below HR0_6.out HB.out)) HC0_6.out (aC_ (Kd.C_below HR0_7.out HB.out)) HC0_7.out A9.out).mono ?_); rintro e w11 ⟨rfl, hb⟩; refine ⟨_, rfl, ?_⟩; replace BK57 := am (bbl_ BK57.out hb); replace HB := am (below_step ab25_ hb); (try clear hb)))
    go_ret
    exact ⟨rr_, ab25_⟩
   replace c8 := Bool.eq_false_iff.mpr c8
   subst c8
   rw [if_neg (show ¬ (false = true) by decide)] at H
   have HC12 := am H
   clear H
   go_upto_region 3 with (fail)
   go_cut [27] (fun v27 wc => ∃ (kq : Nat) (x27_11 : Bool), v27 = .bool x27_11 ∧ Aside0 (spec_l11Ok.j1 kq a1 x27_11 a0_0 a0_1 a0_2 a0_3 a0_4 l0_5 l0_6 l0_7 = some r) ∧ Aside0 (kq ≤ kj2) ∧ Aside0 (wc.heap[gb57]? = some (.cells #[.int .i64 a0_0, .int .i64 a0_1, .int .i64 a0_2, .int .i64 a0_3, .int .i64 a0_4, (.slice A0_5 l0_5.length c0_5), (.slice A0_6 l0_6.length c0_6), (.slice A0_7 l0_7.length c0_7)] 58 (0, 0))) ∧ Aside0 (Below w.heap.size w wc))
   case first =>
    have H := HC12.out
    clear HC12
    by_cases c13 : a1 < 1
    ·rw [if_pos c13] at H
     have c13b0 : decide (a1 < 1) = true := decide_eq_true c13
     clear c13
     (first | rw [c13b0] | (simp only [i64_w, i32_w]; rw [c13b0]) | skip)
     have H' := am H
     clear H
     go_wp2
     go_meet
     case rel => exact ⟨_, (true), sd_, H', ⟨by have := HJ2.out; first | omega | exact Nat.le_refl _⟩, ⟨by (with_reducible repeat (first | refine blk_drewN ?_ _ | refine blk_drew ?_ | refine blk_alloc ?_ _)); exact BK57.out⟩, ⟨ab25_⟩⟩
    rw [if_neg c13] at H
    have c13b0 : decide (a1 < 1) = false := decide_eq_false c13
    clear c13
    (first | rw [c13b0] | (simp only [i64_w, i32_w]; rw [c13b0]) | skip)
    by_cases c14 : a0_0 = 3
    ·rw [if_pos c14] at H
     have c14b0 : (a0_0 == 3) = true := beq_iff_eq.mpr c14
     have c14b1 : (a0_0 != 3) = false := bne_eq_false_iff_eq.mpr c14
     clear c14
     have H' := am H
     clear H
     obtain ⟨hcz15_0, hcz15_1, hcz15_2, hcz15_3, hcz15_4, hcz15_5, hcz15_6, hcz15_7, hfz15_0, hfz15_1, hfz15_2, hfz15_3, hfz15_4, hfz15_5, hfz15_6, hfz15_7⟩ := bcf8_ BK57.out
     go_wp2
     go_meet
     case rel => exact ⟨_, (decide ((l0_7.length : Int) > 0)), sd_, H', ⟨by have := HJ2.out; first | omega | exact Nat.le_refl _⟩, ⟨by (with_reducible repeat (first | refine blk_drewN ?_ _ | refine blk_drew ?_ | refine blk_alloc ?_ _)); exact BK57.out⟩, ⟨ab25_⟩⟩
    rw [if_neg c14] at H
    have c14b0 : (a0_0 == 3) = false := beq_eq_false_iff_ne.mpr c14
    have c14b1 : (a0_0 != 3) = true := bne_iff_ne.mpr c14
    have H' := am H
    clear H
    obtain ⟨hcz16_0, hcz16_1, hcz16_2, hcz16_3, hcz16_4, hcz16_5, hcz16_6, hcz16_7, hfz16_0, hfz16_1, hfz16_2, hfz16_3, hfz16_4, hfz16_5, hfz16_6, hfz16_7⟩ := bcf8_ BK57.out
    go_wp2
    go_meet
    case rel => exact ⟨_, (false), sd_, H', ⟨by have := HJ2.out; first | omega | exact Nat.le_refl _⟩, ⟨by (with_reducible repeat (first | refine blk_drewN ?_ _ | refine blk_drew ?_ | refine blk_alloc ?_ _)); exact BK57.out⟩, ⟨ab25_⟩⟩
   case rest =>
    clear HC12
    try clear c8
    obtain ⟨kq, x27_11, rfl, HA, HJ11, BK57, HB⟩ := hcut
    cases kq with
    | zero => exact absurd HA.out (by simp [spec_l11Ok.j1])
    | succ kj11 =>
     have H := HA.out
     clear HA
     simp only [spec_l11Ok.j1] at H
     by_cases c17 : x27_11 = true
     ·subst c17
      rw [if_pos rfl] at H
      obtain rfl := Option.some.inj H
      go_wp2
      go_ret
      exact ⟨rr_, ab25_⟩
     replace c17 := Bool.eq_false_iff.mpr c17
     subst c17
     rw [if_neg (show ¬ (false = true) by decide)] at H
     obtain ⟨t60, A66, H⟩ := bsm H
     (try dsimp only at H)
     have A18 := am A66
     clear A66
     by_cases c19 : t60 = true
     ·subst c19
      rw [if_pos rfl] at H
      obtain ⟨t61, A67, H⟩ := bsm H
      (try dsimp only at H)
      have A20 := am A67
      clear A67
      by_cases c21 : t61 = true
      ·subst c21
       rw [if_pos rfl] at H
       obtain ⟨t62, A68, H⟩ := bsm H
       (try dsimp only at H)
       have A22 := am A68
       clear A68
       by_cases c23 : t62 = true
       ·subst c23
        rw [if_pos rfl] at H
        obtain ⟨t63, A69, H⟩ := bsm H
        (try dsimp only at H)
        have A24 := am A69
        clear A69
        by_cases c25 : t63 = true
        ·subst c25
         rw [if_pos rfl] at H
         obtain ⟨t65, A71, H⟩ := bsm H
         (try dsimp only at H)
         have A26 := am A71
         clear A71
         obtain rfl := Option.some.inj H
         obtain ⟨hcz27_0, hcz27_1, hcz27_2, hcz27_3, hcz27_4, hcz27_5, hcz27_6, hcz27_7, hfz27_0, hfz27_1, hfz27_2, hfz27_3, hfz27_4, hfz27_5, hfz27_6, hfz27_7⟩ := bcf8_ BK57.out
         go_wp2_with (first | ((with_reducible refine gate_callee (f := 119) rfl ?_); refine gl_ 29 Tryz.func119 #[.agg #[.int .i64 a0_0, .int .i64 a0_1, .int .i64 a0_2, .int .i64 a0_3, .int .i64 a0_4, .slice A0_5 l0_5.length c0_5, .slice A0_6 l0_6.length c0_6, .slice A0_7 l0_7.length c0_7], .bool false] ?_; (with_reducible refine (spec_l11Var.calls a0_0 a0_1 a0_2 a0_3 a0_4 _ _ l0_5 _ _ l0_6 _ _ l0_7 false true _ (aC_ (Kd.C_below HR0_5.out HB.out)) HC0_5.out (aC_ (Kd.C_below HR0_6.out HB.out)) HC0_6.out (aC_ (Kd.C_below HR0_7.out HB.out)) HC0_7.out A18.out).mono ?_); rintro e w28 ⟨rfl, hb⟩; refine ⟨_, rfl, ?_⟩; replace BK57 := am (bbl_ BK57.out hb); replace HB := am (below_step ab25_ hb); (try clear hb); obtain ⟨hcz29_0, hcz29_1, hcz29_2, hcz29_3, hcz29_4, hcz29_5, hcz29_6, hcz29_7, hfz29_0, hfz29_1, hfz29_2, hfz29_3, hfz29_4, hfz29_5, hfz29_6, hfz29_7⟩ := bcf8_ BK57.out) | (go_at_call 120; (with_reducible refine (spec_l11Box.calls a0_0 a0_1 a0_2 a0_3 a0_4 _ _ l0_5 _ _ l0_6 _ _ l0_7 false true _ (aC_ (Kd.C_below HR0_5.out HB.out)) HC0_5.out (aC_ (Kd.C_below HR0_6.out HB.out)) HC0_6.out (aC_ (Kd.C_below HR0_7.out HB.out)) HC0_7.out A20.out).mono ?_); rintro e w30 ⟨rfl, hb⟩; replace BK57 := am (bbl_ BK57.out hb); replace HB := am (below_step ab25_ hb); (try clear hb); obtain ⟨hcz31_0, hcz31_1, hcz31_2, hcz31_3, hcz31_4, hcz31_5, hcz31_6, hcz31_7, hfz31_0, hfz31_1, hfz31_2, hfz31_3, hfz31_4, hfz31_5, hfz31_6, hfz31_7⟩ := bcf8_ BK57.out) | (go_at_call 121; (with_reducible refine (spec_ExprValid.calls kj11 a0_3 a0_4 _ _ l0_5 true _ (aC_ (Kd.C_below HR0_5.out HB.out)) HC0_5.out A22.out).mono ?_); rintro e w32 ⟨rfl, hb⟩; replace BK57 := am (bbl_ BK57.out hb); replace HB := am (below_step ab25_ hb); (try clear hb); obtain ⟨hcz33_0, hcz33_1, hcz33_2, hcz33_3, hcz33_4, hcz33_5, hcz33_6, hcz33_7, hfz33_0, hfz33_1, hfz33_2, hfz33_3, hfz33_4, hfz33_5, hfz33_6, hfz33_7⟩ := bcf8_ BK57.out) | (go_at_call 70; (with_reducible refine (ih_spec_l11Blocks kj11 (by have := HJ2.out; have := HJ11.out; omega) _ _ l0_6 (wrap64 (a1 - 1)) true _ (aC_ (Kd.C_below HR0_6.out HB.out)) HC0_6.out A24.out).mono ?_); rintro e w34 ⟨rfl, hb⟩; replace BK57 := am (bbl_ BK57.out hb); replace HB := am (below_step ab25_ hb); (try clear hb); obtain ⟨hcz35_0, hcz35_1, hcz35_2, hcz35_3, hcz35_4, hcz35_5, hcz35_6, hcz35_7, hfz35_0, hfz35_1, hfz35_2, hfz35_3, hfz35_4, hfz35_5, hfz35_6, hfz35_7⟩ := bcf8_ BK57.out) | (go_at_call 70; (with_reducible refine (ih_spec_l11Blocks kj11 (by have := HJ2.out; have := HJ11.out; omega) _ _ l0_7 (wrap64 (a1 - 1)) t65 _ (aC_ (Kd.C_below HR0_7.out HB.out)) HC0_7.out A26.out).mono ?_); rintro e w36 ⟨rfl, hb⟩; replace BK57 := am (bbl_ BK57.out hb); replace HB := am (below_step ab25_ hb); (try clear hb)))
         go_ret
         exact ⟨rr_, ab25_⟩
        replace c25 := Bool.eq_false_iff.mpr c25
        subst c25
        rw [if_neg (show ¬ (false = true) by decide)] at H
        obtain rfl := Option.some.inj H
        obtain ⟨hcz37_0, hcz37_1, hcz37_2, hcz37_3, hcz37_4, hcz37_5, hcz37_6, hcz37_7, hfz37_0, hfz37_1, hfz37_2, hfz37_3, hfz37_4, hfz37_5, hfz37_6, hfz37_7⟩ := bcf8_ BK57.out
        go_wp2_with (first | ((with_reducible refine gate_callee (f := 119) rfl ?_); refine gl_ 29 Tryz.func119 #[.agg #[.int .i64 a0_0, .int .i64 a0_1, .int .i64 a0_2, .int .i64 a0_3, .int .i64 a0_4, .slice A0_5 l0_5.length c0_5, .slice A0_6 l0_6.length c0_6, .slice A0_7 l0_7.length c0_7], .bool false] ?_; (with_reducible refine (spec_l11Var.calls a0_0 a0_1 a0_2 a0_3 a0_4 _ _ l0_5 _ _ l0_6 _ _ l0_7 false true _ (aC_ (Kd.C_below HR0_5.out HB.out)) HC0_5.out (aC_ (Kd.C_below HR0_6.out HB.out)) HC0_6.out (aC_ (Kd.C_below HR0_7.out HB.out)) HC0_7.out A18.out).mono ?_); rintro e w38 ⟨rfl, hb⟩; refine ⟨_, rfl, ?_⟩; replace BK57 := am (bbl_ BK57.out hb); replace HB := am (below_step ab25_ hb); (try clear hb); obtain ⟨hcz39_0, hcz39_1, hcz39_2, hcz39_3, hcz39_4, hcz39_5, hcz39_6, hcz39_7, hfz39_0, hfz39_1, hfz39_2, hfz39_3, hfz39_4, hfz39_5, hfz39_6, hfz39_7⟩ := bcf8_ BK57.out) | (go_at_call 120; (with_reducible refine (spec_l11Box.calls a0_0 a0_1 a0_2 a0_3 a0_4 _ _ l0_5 _ _ l0_6 _ _ l0_7 false true _ (aC_ (Kd.C_below HR0_5.out HB.out)) HC0_5.out (aC_ (Kd.C_below HR0_6.out HB.out)) HC0_6.out (aC_ (Kd.C_below HR0_7.out HB.out)) HC0_7.out A20.out).mono ?_); rintro e w40 ⟨rfl, hb⟩; replace BK57 := am (bbl_ BK57.out hb); replace HB := am (below_step ab25_ hb); (try clear hb); obtain ⟨hcz41_0, hcz41_1, hcz41_2, hcz41_3, hcz41_4, hcz41_5, hcz41_6, hcz41_7, hfz41_0, hfz41_1, hfz41_2, hfz41_3, hfz41_4, hfz41_5, hfz41_6, hfz41_7⟩ := bcf8_ BK57.out) | (go_at_call 121; (with_reducible refine (spec_ExprValid.calls kj11 a0_3 a0_4 _ _ l0_5 true _ (aC_ (Kd.C_below HR0_5.out HB.out)) HC0_5.out A22.out).mono ?_); rintro e w42 ⟨rfl, hb⟩; replace BK57 := am (bbl_ BK57.out hb); replace HB := am (below_step ab25_ hb); (try clear hb); obtain ⟨hcz43_0, hcz43_1, hcz43_2, hcz43_3, hcz43_4, hcz43_5, hcz43_6, hcz43_7, hfz43_0, hfz43_1, hfz43_2, hfz43_3, hfz43_4, hfz43_5, hfz43_6, hfz43_7⟩ := bcf8_ BK57.out) | (go_at_call 70; (with_reducible refine (ih_spec_l11Blocks kj11 (by have := HJ2.out; have := HJ11.out; omega) _ _ l0_6 (wrap64 (a1 - 1)) false _ (aC_ (Kd.C_below HR0_6.out HB.out)) HC0_6.out A24.out).mono ?_); rintro e w44 ⟨rfl, hb⟩; replace BK57 := am (bbl_ BK57.out hb); replace HB := am (below_step ab25_ hb); (try clear hb)))
        go_ret
        exact ⟨rr_, ab25_⟩
       replace c23 := Bool.eq_false_iff.mpr c23
       subst c23
       rw [if_neg (show ¬ (false = true) by decide)] at H
       obtain rfl := Option.some.inj H
       obtain ⟨hcz45_0, hcz45_1, hcz45_2, hcz45_3, hcz45_4, hcz45_5, hcz45_6, hcz45_7, hfz45_0, hfz45_1, hfz45_2, hfz45_3, hfz45_4, hfz45_5, hfz45_6, hfz45_7⟩ := bcf8_ BK57.out
       go_wp2_with (first | ((with_reducible refine gate_callee (f := 119) rfl ?_); refine gl_ 29 Tryz.func119 #[.agg #[.int .i64 a0_0, .int .i64 a0_1, .int .i64 a0_2, .int .i64 a0_3, .int .i64 a0_4, .slice A0_5 l0_5.length c0_5, .slice A0_6 l0_6.length c0_6, .slice A0_7 l0_7.length c0_7], .bool false] ?_; (with_reducible refine (spec_l11Var.calls a0_0 a0_1 a0_2 a0_3 a0_4 _ _ l0_5 _ _ l0_6 _ _ l0_7 false true _ (aC_ (Kd.C_below HR0_5.out HB.out)) HC0_5.out (aC_ (Kd.C_below HR0_6.out HB.out)) HC0_6.out (aC_ (Kd.C_below HR0_7.out HB.out)) HC0_7.out A18.out).mono ?_); rintro e w46 ⟨rfl, hb⟩; refine ⟨_, rfl, ?_⟩; replace BK57 := am (bbl_ BK57.out hb); replace HB := am (below_step ab25_ hb); (try clear hb); obtain ⟨hcz47_0, hcz47_1, hcz47_2, hcz47_3, hcz47_4, hcz47_5, hcz47_6, hcz47_7, hfz47_0, hfz47_1, hfz47_2, hfz47_3, hfz47_4, hfz47_5, hfz47_6, hfz47_7⟩ := bcf8_ BK57.out) | (go_at_call 120; (with_reducible refine (spec_l11Box.calls a0_0 a0_1 a0_2 a0_3 a0_4 _ _ l0_5 _ _ l0_6 _ _ l0_7 false true _ (aC_ (Kd.C_below HR0_5.out HB.out)) HC0_5.out (aC_ (Kd.C_below HR0_6.out HB.out)) HC0_6.out (aC_ (Kd.C_below HR0_7.out HB.out)) HC0_7.out A20.out).mono ?_); rintro e w48 ⟨rfl, hb⟩; replace BK57 := am (bbl_ BK57.out hb); replace HB := am (below_step ab25_ hb); (try clear hb); obtain ⟨hcz49_0, hcz49_1, hcz49_2, hcz49_3, hcz49_4, hcz49_5, hcz49_6, hcz49_7, hfz49_0, hfz49_1, hfz49_2, hfz49_3, hfz49_4, hfz49_5, hfz49_6, hfz49_7⟩ := bcf8_ BK57.out) | (go_at_call 121; (with_reducible refine (spec_ExprValid.calls kj11 a0_3 a0_4 _ _ l0_5 false _ (aC_ (Kd.C_below HR0_5.out HB.out)) HC0_5.out A22.out).mono ?_); rintro e w50 ⟨rfl, hb⟩; replace BK57 := am (bbl_ BK57.out hb); replace HB := am (below_step ab25_ hb); (try clear hb)))
       go_ret
       exact ⟨rr_, ab25_⟩
      replace c21 := Bool.eq_false_iff.mpr c21
      subst c21
      rw [if_neg (show ¬ (false = true) by decide)] at H
      obtain rfl := Option.some.inj H
      obtain ⟨hcz51_0, hcz51_1, hcz51_2, hcz51_3, hcz51_4, hcz51_5, hcz51_6, hcz51_7, hfz51_0, hfz51_1, hfz51_2, hfz51_3, hfz51_4, hfz51_5, hfz51_6, hfz51_7⟩ := bcf8_ BK57.out
      go_wp2_with (first | ((with_reducible refine gate_callee (f := 119) rfl ?_); refine gl_ 29 Tryz.func119 #[.agg #[.int .i64 a0_0, .int .i64 a0_1, .int .i64 a0_2, .int .i64 a0_3, .int .i64 a0_4, .slice A0_5 l0_5.length c0_5, .slice A0_6 l0_6.length c0_6, .slice A0_7 l0_7.length c0_7], .bool false] ?_; (with_reducible refine (spec_l11Var.calls a0_0 a0_1 a0_2 a0_3 a0_4 _ _ l0_5 _ _ l0_6 _ _ l0_7 false true _ (aC_ (Kd.C_below HR0_5.out HB.out)) HC0_5.out (aC_ (Kd.C_below HR0_6.out HB.out)) HC0_6.out (aC_ (Kd.C_below HR0_7.out HB.out)) HC0_7.out A18.out).mono ?_); rintro e w52 ⟨rfl, hb⟩; refine ⟨_, rfl, ?_⟩; replace BK57 := am (bbl_ BK57.out hb); replace HB := am (below_step ab25_ hb); (try clear hb); obtain ⟨hcz53_0, hcz53_1, hcz53_2, hcz53_3, hcz53_4, hcz53_5, hcz53_6, hcz53_7, hfz53_0, hfz53_1, hfz53_2, hfz53_3, hfz53_4, hfz53_5, hfz53_6, hfz53_7⟩ := bcf8_ BK57.out) | (go_at_call 120; (with_reducible refine (spec_l11Box.calls a0_0 a0_1 a0_2 a0_3 a0_4 _ _ l0_5 _ _ l0_6 _ _ l0_7 false false _ (aC_ (Kd.C_below HR0_5.out HB.out)) HC0_5.out (aC_ (Kd.C_below HR0_6.out HB.out)) HC0_6.out (aC_ (Kd.C_below HR0_7.out HB.out)) HC0_7.out A20.out).mono ?_); rintro e w54 ⟨rfl, hb⟩; replace BK57 := am (bbl_ BK57.out hb); replace HB := am (below_step ab25_ hb); (try clear hb)))
      go_ret
      exact ⟨rr_, ab25_⟩
     replace c19 := Bool.eq_false_iff.mpr c19
     subst c19
     rw [if_neg (show ¬ (false = true) by decide)] at H
     obtain rfl := Option.some.inj H
     obtain ⟨hcz55_0, hcz55_1, hcz55_2, hcz55_3, hcz55_4, hcz55_5, hcz55_6, hcz55_7, hfz55_0, hfz55_1, hfz55_2, hfz55_3, hfz55_4, hfz55_5, hfz55_6, hfz55_7⟩ := bcf8_ BK57.out
     go_wp2_with (first | ((with_reducible refine gate_callee (f := 119) rfl ?_); refine gl_ 29 Tryz.func119 #[.agg #[.int .i64 a0_0, .int .i64 a0_1, .int .i64 a0_2, .int .i64 a0_3, .int .i64 a0_4, .slice A0_5 l0_5.length c0_5, .slice A0_6 l0_6.length c0_6, .slice A0_7 l0_7.length c0_7], .bool false] ?_; (with_reducible refine (spec_l11Var.calls a0_0 a0_1 a0_2 a0_3 a0_4 _ _ l0_5 _ _ l0_6 _ _ l0_7 false false _ (aC_ (Kd.C_below HR0_5.out HB.out)) HC0_5.out (aC_ (Kd.C_below HR0_6.out HB.out)) HC0_6.out (aC_ (Kd.C_below HR0_7.out HB.out)) HC0_7.out A18.out).mono ?_); rintro e w56 ⟨rfl, hb⟩; refine ⟨_, rfl, ?_⟩; replace BK57 := am (bbl_ BK57.out hb); replace HB := am (below_step ab25_ hb); (try clear hb)))
     go_ret
     exact ⟨rr_, ab25_⟩
end Go.Proofs.YtjamfkpgmkhbnaaGreatDoor.PA


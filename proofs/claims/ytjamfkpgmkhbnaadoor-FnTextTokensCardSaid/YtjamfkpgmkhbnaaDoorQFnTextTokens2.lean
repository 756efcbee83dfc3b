/- Part 3. -/
import Derived.Test.YtjamfkpgmkhbnaaDoorQFnTextTokens1
import Derived.Laws.BitsLemmas
import Derived.Lib.Join
import Derived.Lib.ItoaNum
import Derived.Lib.Bytealg
import Derived.KernelRfl
import Derived.Test.YtjamfkpgmkhbnaaDoorRows
import Derived.ProofKit
import Derived.LaidMore
import Derived.Stop.Joined
import Derived.Stop.LaidErr
import Derived.MakeChecks
import Derived.Lib.LaidTab
import Derived.ChangeOld
import Derived.ChangeVars
set_option maxHeartbeats 8000000
set_option maxRecDepth 100000
namespace Go.Proofs.YtjamfkpgmkhbnaaDoor.PA
open Go.RowKit Go.Proofs.YtjamfkpgmkhbnaaDoorW.PrintWords Go.Proofs.YtjamfkpgmkhbnaaDoorW.PrintLast Go.Proofs.YtjamfkpgmkhbnaaDoorW.PrintMore
attribute [local go_sem] max2_int min2_int max_two min_two max_three min_three max_four min_four
set_option linter.unusedVariables false
set_option linter.unusedSimpArgs false
theorem strconv_Itoa_39.calls (a0 : Int) (r : ByteArray) (w : World) (ht_ : Tab w) (h : strconv_Itoa_39.f a0 = some r) :
  Calls Tryd.prog 39 #[.int .i64 a0] w fun e w' => e = .returned (.string r) ∧ Below w.heap.size w w' := by
 unfold strconv_Itoa_39.f at h
 by_cases h1 : 0 ≤ a0
 case neg => rw [if_neg h1] at h; cases h
 rw [if_pos h1] at h
 by_cases h2 : a0 ≤ 9223372036854775807
 case neg => rw [if_neg h2] at h; cases h
 rw [if_pos h2] at h
 obtain rfl := Option.some.inj h
 refine (Tryd.strconv_Itoa a0 (by omega) h2 w ht_.pow).mono ?_
 rintro e w' ⟨rfl, k, os, rfl⟩
 exact ⟨rfl, Lib.below_grow _ _ (Nat.le_refl _) _ _⟩
theorem impl_varText.calls (a0 : Int) (r : ByteArray) (w : World) (h : impl_varText.f a0 = some r) :
  Calls Tryd.prog 40 #[.int .i64 a0] w fun e w' => e = .returned (.string r) ∧ Drawn0 w w' := by
 unfold impl_varText.f at h
 by_cases h1 : 0 ≤ a0 ∧ a0 ≤ 3
 case neg => rw [if_neg h1] at h; cases h
 rw [if_pos h1] at h
 obtain rfl := Option.some.inj h
 have h4 : a0 = 0 ∨ a0 = 1 ∨ a0 = 2 ∨ a0 = 3 := by omega
 clear h1
 rcases h4 with rfl | rfl | rfl | rfl
 all_goals
  go_enter Tryd.func40, Tryd.ntmps40
  go_wp2
  go_ret
  exact ⟨rfl, Drawn0.refl _⟩
theorem impl_OpText.calls (a0 : Int) (r : ByteArray) (w : World) (ht_ : Tab w) (h : impl_OpText.f a0 = some r) :
  Calls Tryd.prog 43 #[.int .i64 a0] w fun e w' => e = .returned (.string r) ∧ Below w.heap.size w w' := by
 unfold impl_OpText.f at h
 by_cases h1 : 1 ≤ a0 ∧ a0 ≤ 12
 case neg => rw [if_neg h1] at h; cases h
 rw [if_pos h1] at h
 obtain rfl := Option.some.inj h
 have hv : impl_OpValid.f a0 = some true := by
  unfold impl_OpValid.f
  simp [h1.1, h1.2]
 have HV := am hv
 rw [show (a0 - 1).toNat = a0.toNat - 1 by omega]
 have hc := opCell ht_ (a0.toNat - 1) (by omega)
 have hw : wrap64 (a0 - 1) = a0 - 1 := by unfold wrap64; omega
 have p0 : decide (0 ≤ a0 - 1) = true := decide_eq_true (by omega)
 have p1 : decide (a0 - 1 < 12) = true := decide_eq_true (by omega)
 have q0 : (0 ≤ a0 - 1) = True := eq_true (by omega)
 have q1 : (a0 - 1 < 12) = True := eq_true (by omega)
 have q2 : (1 ≤ a0) = True := eq_true h1.1
 have q3 : (a0 < 13) = True := eq_true (by omega)
 clear hv h1
 go_enter Tryd.func43, Tryd.ntmps43
 go_wp2_with (first | (go_at_call 57; (with_reducible refine (impl_OpValid.calls a0 true _ HV.out).mono ?_); rintro e w' ⟨rfl, ⟨nd, rfl⟩⟩))
 go_ret
 exact ⟨rfl, by first | exact Below.refl _ _ | exact pw_below_drewN (Below.refl _ _) _⟩
theorem impl_exprTokens.foot_T29_2 {w Wn : World} {S : Nat → Prop} {A : Option Addr} {n : Nat} {xs : List S29} (h : ∀ W_, Kept w W_ S → Kd.C k29 W_ A n xs) (hk : Kept w Wn S) (i : Int) (h0 : 0 ≤ i) (h1 : i < n) {ad : Addr} {A2 : Option Addr} {c2 : Nat} (e : A = some ad) (hc : Wn.cell? ⟨(ad.add (i.toNat * 3)).block, (ad.add (i.toNat * 3)).off + 2, none⟩ = some (.slice A2 (rd_T29 xs i).f2.length c2)) : ∀ W_, Kept w W_ S → k29.C W_ A2 (rd_T29 xs i).f2.length (rd_T29 xs i).f2 := by
 intro W_ hW
 subst e
 have hne : ¬ S ad.block := Kd.foot_neS h (by omega) (by decide)
 have hlt : ad.block < w.heap.size := Kd.foot_ltS h (by omega) (by decide)
 obtain ⟨ad', A2q, c2q, e', _, _, X2, _, I2⟩ := at_T29 (h W_ hW) i h0 h1
 injection e' with e'
 subst e'
 have hb : W_.heap[ad.block]? = Wn.heap[ad.block]? := (hW.2 _ hlt hne).trans (hk.2 _ hlt hne).symm
 have hcc : ∀ a : Addr, a.block = ad.block → W_.cell? a = Wn.cell? a := by
  intro a ha
  unfold World.cell?
  rw [ha, hb]
 have h2 := (hcc ⟨(ad.add (i.toNat * 3)).block, (ad.add (i.toNat * 3)).off + 2, none⟩ (by show (ad.add _).block = ad.block; unfold Addr.add; split <;> rfl)).trans hc
 rw [X2] at h2
 injection h2 with h2
 injection h2 with h2 h3 h4
 subst h2
 exact I2
theorem impl_exprTokens.step (k : Nat) (ih_impl_operandTokens : ∀ m, m < k → impl_operandTokens.CallsAt m) (ih_impl_exprTokens : ∀ m, m < k → impl_exprTokens.CallsAt m) : impl_exprTokens.CallsAt k := by
 intro a0_0 a0_1 A0_2 c0_2 l0_2 P1_ u23_ l1 r w0 w hB hr0_2 hc0_2 ho1 ht_ h
 cases k with
 | zero => exact absurd h (by simp [impl_exprTokens.f])
 | succ k =>
 simp only [impl_exprTokens.f] at h
 have hu29 := Tryd.underlying29
 have HR0_2 := am hr0_2
 have HC0_2 := am hc0_2
 clear hr0_2 hc0_2
 have HO1 := am (show Kd.R Kd.string 9 w w0.heap.size (fun k_ => (P1_ k_ ∨ w.heap.size ≤ k_)) u23_ l1 from Kd.R_mono ho1 (fun k_ hk => (.inl hk)))
 have HK := am (Kept.refl w (fun k_ => P1_ k_))
 have HW0 := am hB.size
 have HB := am hB
 clear hB
 have H : (if a0_0 = 0 then ((strconv_Itoa_39.f a0_1).bind fun t24 => (if l1.length < 8796093022208 then (some (l1 ++ [t24])) else (none))) else (if a0_0 = 13 then ((impl_varText.f a0_1).bind fun t35 => (if l1.length < 8796093022208 then (some (l1 ++ [t35])) else (none))) else ((impl_OpLevel.f k a0_0).bind fun t36 => (if 0 < (l0_2.length : Int) then ((impl_operandTokens.f k ((rd_T29 l0_2 0).f0) ((rd_T29 l0_2 0).f1) ((rd_T29 l0_2 0).f2) t36 l1).bind fun t44 => ((impl_OpText.f a0_0).bind fun t45 => (if t44.length < 8796093022208 then (if 1 < (l0_2.length : Int) then ((impl_operandTokens.f k ((rd_T29 l0_2 1).f0) ((rd_T29 l0_2 1).f1) ((rd_T29 l0_2 1).f2) (wrap64 (t36 + 1)) (t44 ++ [t45])).bind fun t46 => (some t46)) else (none)) else (none)))) else (none))))) = some r := h
 clear h
 have HH_ := am H
 clear H
 go_enter Tryd.func22, Tryd.ntmps22
 go_upto_region 1 with (first | ((with_reducible refine gate_dst (N := 2) rfl ?_); refine box_event rfl (N := 2) rfl (cs := #[.int .i64 a0_0, .int .i64 a0_1, .slice A0_2 l0_2.length c0_2]) (t := 29) rn_ ?_; intro gb48 hg w6 hbox hb; replace HO1 := am (Kd.R_below (aR_ HO1.out) hb); have BK48 := am (hbox); have GW48 := am ((by rw [hg]; exact (by first | exact HK.out.1 | exact (show Kept w _ (fun k_ => P1_ k_) from ab34_).1) : w.heap.size ≤ gb48)); replace HK := am (Kept.below (S := (fun k_ => P1_ k_)) ab34_ hb); have GE48 := am ((by rw [hg]; exact (below_size ab2_) : w0.heap.size ≤ gb48)); replace HB := am (below_step ab2_ hb); clear hb hbox hg; obtain ⟨hcz7_0, hcz7_1, hcz7_2, hfz7_0, hfz7_1, hfz7_2⟩ := bcf3_ BK48.out))
 have H := HH_.out
 clear HH_
 by_cases c3 : a0_0 = 0
 ·rw [if_pos c3] at H
  have c3b0 : (a0_0 == 0) = true := beq_iff_eq.mpr c3
  have c3b1 : (a0_0 != 0) = false := bne_eq_false_iff_eq.mpr c3
  clear c3
  obtain ⟨t24, A4, H⟩ := bsa H
  (try dsimp only at H)
  by_cases c5 : l1.length < 8796093022208
  ·rw [if_pos c5] at H
   have LMc5 := am c5
   clear c5
   obtain ⟨y49, hy_⟩ : ∃ y_ : List ByteArray, y_ = (l1 ++ [t24]) := ⟨_, rfl⟩
   replace H : (some y49) = some r := rx_
   have Ny49 := am hy_
   clear hy_
   obtain rfl := Option.some.inj H
   go_wp2_with (first | ((with_reducible refine gate_callee (f := 39) rfl ?_); refine gl_ 13 Tryd.func39 #[.int .i64 a0_1] ?_; (with_reducible refine (strconv_Itoa_39.calls a0_1 t24 _ ?sideT A4.out).mono ?_); (case sideT => first | exact ht_ | exact Tab.below ht_ HB.out | exact Tab.below ht_ ab14_); rintro e w8 ⟨rfl, hb⟩; refine ⟨_, rfl, ?_⟩; replace HO1 := am (Kd.R_below (aR_ HO1.out) hb); replace BK48 := am (bbl_ BK48.out hb); replace HK := am (Kept.below (S := (fun k_ => P1_ k_)) ab13_ hb); replace HB := am (below_step ab14_ hb); (try clear hb)) | ((with_reducible refine gate_builtin (b := .append) (xs := #[.tmp 10, .tmp 14]) rfl ?_); at_builtin; refine Kd.R_append Kd.string (w0 := w0) w0.heap.size rfl (.tmp 10) (.tmp 14) 37 9 (.string ⟨#[]⟩) 16 rfl Tryd.underlying37 info9 rfl (by decide) (by omega) u23_ l1 t24 [.string t24] (fun k_ => (P1_ k_ ∨ w.heap.size ≤ k_)) (fun _ => False) rfl rfl ?aP (fun _ hk => hk.elim) ?aF ?aO ?aB ?aS ?aL ?_; (case aP => exact rfl); (case aB => exact ab14_); (case aF => exact (fun k_ hk => (.inr (Nat.le_trans (by first | exact HK.out.1 | exact (show Kept w _ (fun k_ => P1_ k_) from ab13_).1) hk)))); (case aO => exact (aR_ HO1.out)); (case aS => exact (below_size ab14_)); (case aL => have := LMc5.out; omega); intro v50 w9 ho hb hg hat; rw [← Ny49.out] at ho; replace BK48 := am (blk_grown (g := gb48) (o := .cells #[.int .i64 a0_0, .int .i64 a0_1, .slice A0_2 l0_2.length c0_2] 29 (0, 0)) (aG_ BK48.out) hg (Kd.R_ne HO1.out BK48.out (by decide))); replace HB := am (hb); replace HK := am (Kept.of_grown (S := (fun k_ => P1_ k_)) hg ab13_ (fun k_ e_ => (HO1.out.1 k_ e_))); have HO51 := am (ho); clear HO1 ho hb hg hat))
   go_ret
   exact ⟨_, ab16_, aRw_ HO51.out, ab14_, ab13_⟩
  rw [if_neg c5] at H
  exact absurd H (by simp)
 rw [if_neg c3] at H
 have c3b0 : (a0_0 == 0) = false := beq_eq_false_iff_ne.mpr c3
 have c3b1 : (a0_0 != 0) = true := bne_iff_ne.mpr c3
 by_cases c10 : a0_0 = 13
 ·rw [if_pos c10] at H
  have c10b0 : (a0_0 == 13) = true := beq_iff_eq.mpr c10
  have c10b1 : (a0_0 != 13) = false := bne_eq_false_iff_eq.mpr c10
  clear c10
  obtain ⟨t35, A52, H⟩ := bsm H
  (try dsimp only at H)
  have A11 := am A52
  clear A52
  by_cases c12 : l1.length < 8796093022208
  ·rw [if_pos c12] at H
   have LMc12 := am c12
   clear c12
   obtain ⟨y53, hy_⟩ : ∃ y_ : List ByteArray, y_ = (l1 ++ [t35]) := ⟨_, rfl⟩
   replace H : (some y53) = some r := rx_
   have Ny53 := am hy_
   clear hy_
   obtain rfl := Option.some.inj H
   go_wp2_with (first | ((with_reducible refine gate_callee (f := 40) rfl ?_); refine gl_ 21 Tryd.func40 #[.int .i64 a0_1] ?_; (with_reducible refine (impl_varText.calls a0_1 t35 _ A11.out).mono ?_); rintro e w' ⟨rfl, ⟨nd, rfl⟩⟩; refine ⟨_, rfl, ?_⟩) | ((with_reducible refine gate_builtin (b := .append) (xs := #[.tmp 18, .tmp 22]) rfl ?_); at_builtin; refine Kd.R_append Kd.string (w0 := w0) w0.heap.size rfl (.tmp 18) (.tmp 22) 37 9 (.string ⟨#[]⟩) 16 rfl Tryd.underlying37 info9 rfl (by decide) (by omega) u23_ l1 t35 [.string t35] (fun k_ => (P1_ k_ ∨ w.heap.size ≤ k_)) (fun _ => False) rfl rfl ?aP (fun _ hk => hk.elim) ?aF ?aO ?aB ?aS ?aL ?_; (case aP => exact rfl); (case aB => exact ab14_); (case aF => exact (fun k_ hk => (.inr (Nat.le_trans (by first | exact HK.out.1 | exact (show Kept w _ (fun k_ => P1_ k_) from ab13_).1) hk)))); (case aO => exact (aR_ HO1.out)); (case aS => exact (below_size ab14_)); (case aL => have := LMc12.out; omega); intro v54 w15 ho hb hg hat; rw [← Ny53.out] at ho; replace BK48 := am (blk_grown (g := gb48) (o := .cells #[.int .i64 a0_0, .int .i64 a0_1, .slice A0_2 l0_2.length c0_2] 29 (0, 0)) (aG_ BK48.out) hg (Kd.R_ne HO1.out BK48.out (by decide))); replace HB := am (hb); replace HK := am (Kept.of_grown (S := (fun k_ => P1_ k_)) hg ab13_ (fun k_ e_ => (HO1.out.1 k_ e_))); have HO55 := am (ho); clear HO1 ho hb hg hat))
   go_ret
   exact ⟨_, ab16_, aRw_ HO55.out, ab14_, ab13_⟩
  rw [if_neg c12] at H
  exact absurd H (by simp)
 rw [if_neg c10] at H
 have c10b0 : (a0_0 == 13) = false := beq_eq_false_iff_ne.mpr c10
 have c10b1 : (a0_0 != 13) = true := bne_iff_ne.mpr c10
 obtain ⟨t36, A56, H⟩ := bsm H
 (try dsimp only at H)
 have A16 := am A56
 clear A56
 by_cases c17 : 0 < (l0_2.length : Int)
 ·rw [if_pos c17] at H
  have c17b0 : decide (0 < (l0_2.length : Int)) = true := decide_eq_true c17
  have c17b1 : decide (0 < l0_2.length) = true := decide_eq_true (by omega)
  clear c17
  obtain ⟨t44, A57, H⟩ := bsm H
  (try dsimp only at H)
  have A18 := am A57
  clear A57
  obtain ⟨t45, A58, H⟩ := bsm H
  (try dsimp only at H)
  have A19 := am A58
  clear A58
  by_cases c20 : t44.length < 8796093022208
  ·rw [if_pos c20] at H
   have LMc20 := am c20
   clear c20
   obtain ⟨y59, hy_⟩ : ∃ y_ : List ByteArray, y_ = (t44 ++ [t45]) := ⟨_, rfl⟩
   replace H : (if 1 < (l0_2.length : Int) then ((impl_operandTokens.f k ((rd_T29 l0_2 1).f0) ((rd_T29 l0_2 1).f1) ((rd_T29 l0_2 1).f2) (wrap64 (t36 + 1)) y59).bind fun t46 => (some t46)) else (none)) = some r := rx_
   have Ny59 := am hy_
   clear hy_
   by_cases c21 : 1 < (l0_2.length : Int)
   ·rw [if_pos c21] at H
    have c21b0 : decide (1 < (l0_2.length : Int)) = true := decide_eq_true c21
    have c21b1 : decide (1 < l0_2.length) = true := decide_eq_true (by omega)
    clear c21
    obtain ⟨t46, A22, H⟩ := bsa H
    (try dsimp only at H)
    obtain rfl := Option.some.inj H
    go_wp2_with (first | ((with_reducible refine gate_callee (f := 41) rfl ?_); refine gl_ 26 Tryd.func41 #[.int .i64 a0_0] ?_; (with_reducible refine (impl_OpLevel.calls k a0_0 t36 _ A16.out).mono ?_); rintro e w' ⟨rfl, ⟨nd, rfl⟩⟩; refine ⟨_, rfl, ?_⟩; have p61 : 0 ≤ (0 : Int) := (by omega); have q61 : 0 < (l0_2.length : Int) := of_decide_eq_true asm_; obtain ⟨ad61, A61_2, c61_2, e61, hx61_0, hx61_1, hx61_2, hl61_2, hi61_2⟩ := at_T29 (Kd.C_kept_now HR0_2.out HK.out) 0 p61 q61; have HF272_2 := am (impl_exprTokens.foot_T29_2 HR0_2.out HK.out 0 p61 q61 e61 hx61_2); cases e61; have qi61 : (0 < l0_2.length) = True := eq_true (by omega); (try rw [show ((0 : Int)).toNat = 0 from rfl] at hx61_0); (try rw [show 0 * 3 = 0 from rfl] at hx61_0); (try rw [Addr.add_zero'] at hx61_0); (try rw [show ((0 : Int)).toNat = 0 from rfl] at hx61_1); (try rw [show 0 * 3 = 0 from rfl] at hx61_1); (try rw [Addr.add_zero'] at hx61_1); (try rw [show ((0 : Int)).toNat = 0 from rfl] at hx61_2); (try rw [show 0 * 3 = 0 from rfl] at hx61_2); (try rw [Addr.add_zero'] at hx61_2); have HR61_2 := am hi61_2; have HC61_2 := am hl61_2; clear hi61_2 hl61_2; replace p61 := eq_true p61; replace q61 := eq_true q61; obtain ⟨Ao25, co25, eo25⟩ := Kd.R_slice HO1.out; subst eo25) | ((with_reducible refine gate_callee (f := 42) rfl ?_); refine gl_ 33 Tryd.func42 #[.agg #[.int .i64 ((rd_T29 l0_2 0).f0), .int .i64 ((rd_T29 l0_2 0).f1), .slice A61_2 ((rd_T29 l0_2 0).f2).length c61_2], .int .i64 t36, .slice Ao25 l1.length co25] ?_; (with_reducible refine (ih_impl_operandTokens k (by omega) ((rd_T29 l0_2 0).f0) ((rd_T29 l0_2 0).f1) _ _ ((rd_T29 l0_2 0).f2) t36 (fun k_ => some k_ = (.slice Ao25 l1.length co25 : Value).ownBlock) (.slice Ao25 l1.length co25) l1 t44 w0 _ ?side1 ?side2 HC61_2.out ?side4 ?sideT A18.out).mono ?_); (case sideT => first | exact ht_ | exact Tab.below ht_ HB.out | exact Tab.below ht_ ab14_); (case side1 => exact ab14_); (case side2 => exact Kd.C_kept_call HF272_2.out ab13_ (fun k_ hs_ => (fun e_ => (HO1.out.1 k_ e_.symm)) hs_)); (case side4 => exact Kd.R_tight rfl HO1.out); rintro e w26 ⟨v62, rfl, ho0, hb, hkp⟩; refine ⟨_, rfl, ?_⟩; replace BK48 := am (blk_kept (aG_ BK48.out) hkp (fun hs_ => (fun e_ => (Kd.R_ne HO1.out BK48.out (by decide)) e_) hs_)); have HO63 := am (Kd.R_mono (ok' := fun k_ => (P1_ k_ ∨ w.heap.size ≤ k_)) ho0 (fun k_ hk_ => Or.elim hk_ (fun hs_ => (HO1.out.1 k_ (hs_).symm)) (fun hn_ => (.inr (Nat.le_trans (by first | exact HK.out.1 | exact (show Kept w _ (fun k_ => P1_ k_) from ab13_).1) hn_))))); replace HK := am (Kept.then_ (S := (fun k_ => P1_ k_)) ab13_ hkp (fun k_ hs_ => (fun e_ => (HO1.out.1 k_ e_.symm)) hs_)); replace HB := am (hb); clear HO1; (try clear hb); (try clear hkp); (try clear ho0); obtain ⟨hcz27_0, hcz27_1, hcz27_2, hfz27_0, hfz27_1, hfz27_2⟩ := bcf3_ BK48.out) | ((with_reducible refine gate_callee (f := 43) rfl ?_); refine gl_ 37 Tryd.func43 #[.int .i64 a0_0] ?_; (with_reducible refine (impl_OpText.calls a0_0 t45 _ ?sideT A19.out).mono ?_); (case sideT => first | exact ht_ | exact Tab.below ht_ HB.out | exact Tab.below ht_ ab14_); rintro e w28 ⟨rfl, hb⟩; refine ⟨_, rfl, ?_⟩; replace HO63 := am (Kd.R_below (aR_ HO63.out) hb); replace BK48 := am (bbl_ BK48.out hb); replace HK := am (Kept.below (S := (fun k_ => P1_ k_)) ab13_ hb); replace HB := am (below_step ab14_ hb); (try clear hb)) | ((with_reducible refine gate_builtin (b := .append) (xs := #[.tmp 34, .tmp 38]) rfl ?_); at_builtin; refine Kd.R_append Kd.string (w0 := w0) w0.heap.size rfl (.tmp 34) (.tmp 38) 37 9 (.string ⟨#[]⟩) 16 rfl Tryd.underlying37 info9 rfl (by decide) (by omega) v62 t44 t45 [.string t45] (fun k_ => (P1_ k_ ∨ w.heap.size ≤ k_)) (fun _ => False) rfl rfl ?aP (fun _ hk => hk.elim) ?aF ?aO ?aB ?aS ?aL ?_; (case aP => exact rfl); (case aB => exact ab14_); (case aF => exact (fun k_ hk => (.inr (Nat.le_trans (by first | exact HK.out.1 | exact (show Kept w _ (fun k_ => P1_ k_) from ab13_).1) hk)))); (case aO => exact (aR_ HO63.out)); (case aS => exact (below_size ab14_)); (case aL => have := LMc20.out; omega); intro v65 w29 ho hb hg hat; rw [← Ny59.out] at ho; replace BK48 := am (blk_grown (g := gb48) (o := .cells #[.int .i64 a0_0, .int .i64 a0_1, .slice (some ad61) l0_2.length c0_2] 29 (0, 0)) (aG_ BK48.out) hg (Kd.R_ne HO63.out BK48.out (by decide))); replace HB := am (hb); replace HK := am (Kept.of_grown (S := (fun k_ => P1_ k_)) hg ab13_ (fun k_ e_ => (HO63.out.1 k_ e_))); have HO66 := am (ho); clear HO63 ho hb hg hat; obtain ⟨hcz30_0, hcz30_1, hcz30_2, hfz30_0, hfz30_1, hfz30_2⟩ := bcf3_ BK48.out; have p67 : 0 ≤ (1 : Int) := (by omega); have q67 : 1 < (l0_2.length : Int) := of_decide_eq_true asm_; obtain ⟨ad67, A67_2, c67_2, e67, hx67_0, hx67_1, hx67_2, hl67_2, hi67_2⟩ := at_T29 (Kd.C_kept_now HR0_2.out HK.out) 1 p67 q67; have HF280_2 := am (impl_exprTokens.foot_T29_2 HR0_2.out HK.out 1 p67 q67 e67 hx67_2); obtain rfl : ad61 = ad67 := (by injection e67); (try simp only [show (1 : Int).toNat = 1 from rfl, Nat.reduceMul, Nat.reduceEqDiff, Go.Addr.add, ↓reduceIte] at hx67_0); (try simp only [show (1 : Int).toNat = 1 from rfl, Nat.reduceMul, Nat.reduceEqDiff, Go.Addr.add, ↓reduceIte] at hx67_1); (try simp only [show (1 : Int).toNat = 1 from rfl, Nat.reduceMul, Nat.reduceEqDiff, Go.Addr.add, ↓reduceIte] at hx67_2); have qi67 : (1 < l0_2.length) = True := eq_true (by omega); (try rw [show ((1 : Int)).toNat = 1 from rfl] at hx67_0); (try rw [show 1 * 3 = 3 from rfl] at hx67_0); (try rw [show ((1 : Int)).toNat = 1 from rfl] at hx67_1); (try rw [show 1 * 3 = 3 from rfl] at hx67_1); (try rw [show ((1 : Int)).toNat = 1 from rfl] at hx67_2); (try rw [show 1 * 3 = 3 from rfl] at hx67_2); have HR67_2 := am hi67_2; have HC67_2 := am hl67_2; clear hi67_2 hl67_2; replace p67 := eq_true p67; replace q67 := eq_true q67; obtain ⟨Ao31, co31, eo31⟩ := Kd.R_slice HO66.out; subst eo31) | ((with_reducible refine gate_callee (f := 42) rfl ?_); refine gl_ 47 Tryd.func42 #[.agg #[.int .i64 ((rd_T29 l0_2 1).f0), .int .i64 ((rd_T29 l0_2 1).f1), .slice A67_2 ((rd_T29 l0_2 1).f2).length c67_2], .int .i64 (wrap64 (t36 + 1)), .slice Ao31 y59.length co31] ?_; (with_reducible refine (ih_impl_operandTokens k (by omega) ((rd_T29 l0_2 1).f0) ((rd_T29 l0_2 1).f1) _ _ ((rd_T29 l0_2 1).f2) (wrap64 (t36 + 1)) (fun k_ => some k_ = (.slice Ao31 y59.length co31 : Value).ownBlock) (.slice Ao31 y59.length co31) y59 t46 w0 _ ?side1 ?side2 HC67_2.out ?side4 ?sideT A22.out).mono ?_); (case sideT => first | exact ht_ | exact Tab.below ht_ HB.out | exact Tab.below ht_ ab14_); (case side1 => exact ab14_); (case side2 => exact Kd.C_kept_call HF280_2.out ab13_ (fun k_ hs_ => (fun e_ => (HO66.out.1 k_ e_.symm)) hs_)); (case side4 => exact Kd.R_tight rfl HO66.out); rintro e w32 ⟨v68, rfl, ho0, hb, hkp⟩; refine ⟨_, rfl, ?_⟩; replace BK48 := am (blk_kept (aG_ BK48.out) hkp (fun hs_ => (fun e_ => (Kd.R_ne HO66.out BK48.out (by decide)) e_) hs_)); have HO69 := am (Kd.R_mono (ok' := fun k_ => (P1_ k_ ∨ w.heap.size ≤ k_)) ho0 (fun k_ hk_ => Or.elim hk_ (fun hs_ => (HO66.out.1 k_ (hs_).symm)) (fun hn_ => (.inr (Nat.le_trans (by first | exact HK.out.1 | exact (show Kept w _ (fun k_ => P1_ k_) from ab13_).1) hn_))))); replace HK := am (Kept.then_ (S := (fun k_ => P1_ k_)) ab13_ hkp (fun k_ hs_ => (fun e_ => (HO66.out.1 k_ e_.symm)) hs_)); replace HB := am (hb); clear HO66; (try clear hb); (try clear hkp); (try clear ho0)))
    go_ret
    exact ⟨_, ab16_, aRw_ HO69.out, ab14_, ab13_⟩
   rw [if_neg c21] at H
   exact absurd H (by simp)
  rw [if_neg c20] at H
  exact absurd H (by simp)
 rw [if_neg c17] at H
 exact absurd H (by simp)
theorem impl_operandTokens.calls_all (k : Nat) : impl_operandTokens.CallsAt k ∧ impl_exprTokens.CallsAt k := by
 induction k using Nat.strongRecOn with
 | _ k ih => exact ⟨impl_operandTokens.step k (ih_impl_operandTokens := fun m hm => (ih m hm).1) (ih_impl_exprTokens := fun m hm => (ih m hm).2), impl_exprTokens.step k (ih_impl_operandTokens := fun m hm => (ih m hm).1) (ih_impl_exprTokens := fun m hm => (ih m hm).2)⟩
theorem impl_operandTokens.calls (k : Nat) : impl_operandTokens.CallsAt k := (impl_operandTokens.calls_all k).1
theorem impl_exprTokens.calls (k : Nat) : impl_exprTokens.CallsAt k := (impl_operandTokens.calls_all k).2
theorem impl_ExprText.mono : ∀ a0 a1 a2 k, LeO (impl_ExprText.f k a0 a1 a2) (impl_ExprText.f (k + 1) a0 a1 a2) := by
 intro a0 a1 a2 k
 unfold impl_ExprText.f
 have m0 := @impl_ExprValid.mono
 have m1 := @impl_TokensText.mono
 have m2 := @impl_exprTokens.mono
 exact mo_
theorem impl_ExprText.calls (k : Nat) (a0_0 : Int) (a0_1 : Int) (A0_2 : Option Addr) (c0_2 : Nat) (l0_2 : List (S29)) (r : ByteArray) (w : World) (hr0_2 : Kd.C k29 w A0_2 l0_2.length l0_2) (hc0_2 : l0_2.length ≤ c0_2) (ht_ : Tab w) (h : impl_ExprText.f k a0_0 a0_1 l0_2 = some r) :
  Calls Tryd.prog 9 #[.agg #[.int .i64 a0_0, .int .i64 a0_1, .slice A0_2 l0_2.length c0_2]] w fun e w' => e = .returned (.string r) ∧ Below w.heap.size w w' := by
 have hu29 := Tryd.underlying29
 have HR0_2 := am hr0_2
 have HC0_2 := am hc0_2
 clear hr0_2 hc0_2
 have HB := am (Below.refl w.heap.size w)
 have H : ((impl_ExprValid.f k a0_0 a0_1 l0_2).bind fun t23 => (if t23 = true then ((impl_exprTokens.f k a0_0 a0_1 l0_2 ([] : List ByteArray)).bind fun t24 => ((impl_TokensText.f k t24).bind fun t25 => (some t25))) else (some (⟨#[]⟩ : ByteArray)))) = some r := h
 clear h
 obtain ⟨t23, A2, H⟩ := bsa H
 (try dsimp only at H)
 have HH_ := am H
 clear H
 go_enter Tryd.func9, Tryd.ntmps9
 go_upto_region 1 with (first | ((with_reducible refine gate_dst (N := 1) rfl ?_); refine box_event rfl (N := 1) rfl (cs := #[.int .i64 a0_0, .int .i64 a0_1, .slice A0_2 l0_2.length c0_2]) (t := 29) rn_ ?_; intro gb26 hg w6 hbox hb; have BK26 := am (hbox); have GW26 := am ((by rw [hg]; exact (below_size ab2_) : w.heap.size ≤ gb26)); have GE26 := am ((by rw [hg]; exact (below_size ab2_) : w.heap.size ≤ gb26)); replace HB := am (below_step ab2_ hb); clear hb hbox hg; obtain ⟨hcz7_0, hcz7_1, hcz7_2, hfz7_0, hfz7_1, hfz7_2⟩ := bcf3_ BK26.out))
 have H := HH_.out
 clear HH_
 by_cases c3 : t23 = true
 ·subst c3
  rw [if_pos rfl] at H
  obtain ⟨t24, A4, H⟩ := bsa H
  (try dsimp only at H)
  obtain ⟨t25, A5, H⟩ := bsa H
  (try dsimp only at H)
  obtain rfl := Option.some.inj H
  go_wp2_with (first | ((with_reducible refine gate_callee (f := 20) rfl ?_); refine gl_ 4 Tryd.func20 #[.agg #[.int .i64 a0_0, .int .i64 a0_1, .slice A0_2 l0_2.length c0_2]] ?_; (with_reducible refine (impl_ExprValid.calls k a0_0 a0_1 _ _ l0_2 true _ (aC_ (Kd.C_below HR0_2.out HB.out)) HC0_2.out A2.out).mono ?_); rintro e w8 ⟨rfl, hb⟩; refine ⟨_, rfl, ?_⟩; replace BK26 := am (bbl_ BK26.out hb); replace HB := am (below_step ab37_ hb); (try clear hb); obtain ⟨hcz9_0, hcz9_1, hcz9_2, hfz9_0, hfz9_1, hfz9_2⟩ := bcf3_ BK26.out) | ((with_reducible refine gate_callee (f := 22) rfl ?_); refine gl_ 7 Tryd.func22 #[.agg #[.int .i64 a0_0, .int .i64 a0_1, .slice A0_2 l0_2.length c0_2], .slice none 0 0] ?_; (refine (impl_exprTokens.calls k a0_0 a0_1 _ _ l0_2 (fun k_ => some k_ = (.slice none 0 0 : Value).ownBlock) (.slice none 0 0) ([] : List ByteArray) t24 w _ ?side1 ?side2 HC0_2.out ?side4 ?sideT A4.out).mono ?_); (case sideT => first | exact ht_ | exact Tab.below ht_ HB.out | exact Tab.below ht_ ab37_); (case side1 => exact ab37_); (case side2 => exact Kd.C_kept_came k29_heap HR0_2.out ab37_ (fun k_ hs_ => (fun e_ => by simp [Value.ownBlock] at e_) hs_)); (case side4 => exact Kd.R_nil _ _ _ _ _); rintro e w10 ⟨v27, rfl, ho0, hb, hkp⟩; refine ⟨_, rfl, ?_⟩; replace BK26 := am (blk_kept (aG_ BK26.out) hkp (fun hs_ => (fun e_ => by simp [Value.ownBlock] at e_) hs_)); have HO28 := am (Kd.R_mono (ok' := fun k_ => True) ho0 (fun k_ hk_ => trivial)); replace HB := am (hb); (try clear hb); (try clear hkp); (try clear ho0); obtain ⟨Ao11, co11, eo11⟩ := Kd.R_slice HO28.out; subst eo11) | ((with_reducible refine gate_callee (f := 21) rfl ?_); refine gl_ 8 Tryd.func21 #[.slice Ao11 t24.length co11] ?_; (with_reducible refine (impl_TokensText.calls k _ _ t24 t25 _ (aC_ (Kd.R_reads' HO28.out).2.2) (Kd.R_reads' HO28.out).2.1 A5.out).mono ?_); rintro e w12 ⟨rfl, hb⟩; refine ⟨_, rfl, ?_⟩; replace HO28 := am (Kd.R_below (aR_ HO28.out) hb); replace BK26 := am (bbl_ BK26.out hb); replace HB := am (below_step ab37_ hb); (try clear hb)))
  go_ret
  exact ⟨rr_, ab37_⟩
 replace c3 := Bool.eq_false_iff.mpr c3
 subst c3
 rw [if_neg (show ¬ (false = true) by decide)] at H
 obtain rfl := Option.some.inj H
 go_wp2_with (first | ((with_reducible refine gate_callee (f := 20) rfl ?_); refine gl_ 4 Tryd.func20 #[.agg #[.int .i64 a0_0, .int .i64 a0_1, .slice A0_2 l0_2.length c0_2]] ?_; (with_reducible refine (impl_ExprValid.calls k a0_0 a0_1 _ _ l0_2 false _ (aC_ (Kd.C_below HR0_2.out HB.out)) HC0_2.out A2.out).mono ?_); rintro e w15 ⟨rfl, hb⟩; refine ⟨_, rfl, ?_⟩; replace BK26 := am (bbl_ BK26.out hb); replace HB := am (below_step ab37_ hb); (try clear hb)))
 go_ret
 exact ⟨rr_, ab37_⟩
def IsS65 (w0 W : World) (g : Nat) (f0 : List Int) (f1 : Int) : Prop := ∃ A0 c0, W.heap[g]? = some (.cells #[.slice A0 f0.length c0, .int .i64 f1] 65 (0, 0)) ∧ w0.heap.size ≤ g ∧ Kd.C (Kd.int .u8) w0 A0 f0.length f0
theorem IsS65.grown {w0 W : World} {g : Nat} {f0 : List Int} {f1 : Int} {W1 : World} {row : Option Nat} (h : IsS65 w0 W g f0 f1) (hw : W.grownBy W1 row) (hne : some g ≠ row) : IsS65 w0 W1 g f0 f1 := by
 obtain ⟨A0, c0, hb, hg, hr0⟩ := h
 exact ⟨A0, c0, blk_grown hb hw hne, hg, hr0⟩
theorem IsS65.own_neN {w0 W : World} {g : Nat} {f0 : List Int} {f1 : Int} {α : Type} {d : Kd α} {e : Nat} {base : Nat} {ok : Nat → Prop} {v : Value} {xs : List α} (h : IsS65 w0 W g f0 f1) (ho : Kd.N d e W base ok v xs) (ht : e ≠ 65) : some g ≠ v.ownBlock := by
 obtain ⟨A0, c0, hb, hg, hr0⟩ := h
 exact Kd.N_ne ho hb ht
theorem IsS65.fresh {w0 W : World} {g : Nat} {f0 : List Int} {f1 : Int} (h : IsS65 w0 W g f0 f1) : ∀ k, W.heap.size ≤ k → k ≠ g := by
 obtain ⟨A0, c0, hb, hg, hr0⟩ := h
 exact Kd.freshB hb
theorem IsS65.kept {w0 W : World} {g : Nat} {f0 : List Int} {f1 : Int} {W1 : World} {S : Nat → Prop} (h : IsS65 w0 W g f0 f1) (hk : Kept W W1 S) (hne : ¬ S g) : IsS65 w0 W1 g f0 f1 := by
 obtain ⟨A0, c0, hb, hg, hr0⟩ := h
 exact ⟨A0, c0, blk_kept hb hk hne, hg, hr0⟩
theorem IsS65.below {w0 W : World} {g : Nat} {f0 : List Int} {f1 : Int} {W1 : World} (h : IsS65 w0 W g f0 f1) (hw : Below W.heap.size W W1) : IsS65 w0 W1 g f0 f1 := h.grown (grown_of_below hw none) (by simp)
theorem IsS65.alloc {w0 W : World} {g : Nat} {f0 : List Int} {f1 : Int} (h : IsS65 w0 W g f0 f1) (o : Obj) : IsS65 w0 (W.alloc o) g f0 f1 := h.below (below_alloc (Below.refl _ _) o)
theorem IsS65.drewN {w0 W : World} {g : Nat} {f0 : List Int} {f1 : Int} (h : IsS65 w0 W g f0 f1) (m : Nat) : IsS65 w0 (W.drewN m) g f0 f1 := h
theorem IsS65.drew {w0 W : World} {g : Nat} {f0 : List Int} {f1 : Int} (h : IsS65 w0 W g f0 f1) : IsS65 w0 W.drew g f0 f1 := h
theorem IsS65.at_ {w0 W : World} {g : Nat} {f0 : List Int} {f1 : Int} {w' : World} {m : Nat} (hq : W.drewN m = w') (h : IsS65 w0 W g f0 f1) : IsS65 w0 w' g f0 f1 := by subst hq; exact IsS65.drewN h m
theorem IsS65.apart {w0 W : World} {g : Nat} {f0 : List Int} {f1 : Int} {α : Type} {d : Kd α} {e : Nat} {base : Nat} {ok : Nat → Prop} {v : Value} {xs : List α} (h : IsS65 w0 W g f0 f1) (ho : d.R e W base ok v xs) (ht : ∀ q, q ∈ e :: d.E → q ≠ 65) : d.R e W base (fun k => ok k ∧ k ≠ g) v xs := by
 obtain ⟨A0, c0, hb, hg, hr0⟩ := h
 exact Kd.R_types ho hb ht
theorem IsS65.own_ne {w0 W : World} {g : Nat} {f0 : List Int} {f1 : Int} {α : Type} {d : Kd α} {e : Nat} {base : Nat} {ok : Nat → Prop} {v : Value} {xs : List α} (h : IsS65 w0 W g f0 f1) (ho : d.R e W base ok v xs) (ht : e ≠ 65) : some g ≠ v.ownBlock := by
 obtain ⟨A0, c0, hb, hg, hr0⟩ := h
 exact Kd.R_ne ho hb ht
theorem IsS65.lt {w0 W : World} {g : Nat} {f0 : List Int} {f1 : Int} (h : IsS65 w0 W g f0 f1) : g < W.heap.size := by
 obtain ⟨A0, c0, hb, hg, hr0⟩ := h
 exact blk_lt hb
theorem IsS65.ge {w0 W : World} {g : Nat} {f0 : List Int} {f1 : Int} (h : IsS65 w0 W g f0 f1) : w0.heap.size ≤ g := by
 obtain ⟨A0, c0, hb, hg, hr0⟩ := h
 exact hg
theorem IsS65.ne_blk {w0 W : World} {g : Nat} {f0 : List Int} {f1 : Int} {a : Nat} {cs : Array Value} {t : TypeId} {fr : Nat × Nat} (h : IsS65 w0 W g f0 f1) (hb2 : W.heap[a]? = some (.cells cs t fr)) (ht : t ≠ 65) : g ≠ a := by
 obtain ⟨A0, c0, hb, hg, hr0⟩ := h
 rintro rfl
 rw [hb] at hb2
 injection hb2 with hb2
 injection hb2 with _ ht2
 exact ht ht2.symm
theorem IsS65.far {w0 W : World} {g : Nat} {f0 : List Int} {f1 : Int} {p : Addr} (h : IsS65 w0 W g f0 f1) (hne : g ≠ p.block) (u : Value) : IsS65 w0 (W.setCell p u) g f0 f1 := by
 obtain ⟨A0, c0, hb, hg, hr0⟩ := h
 exact ⟨A0, c0, blk_far hb hne u, hg, hr0⟩
theorem cellS65_0 {W : World} {g : Nat} {A0 : Option Addr} {c0 : Nat} {f0 : List Int} {f1 : Int} (h : W.heap[g]? = some (.cells #[.slice A0 f0.length c0, .int .i64 f1] 65 (0, 0))) : W.cell? ⟨g, 0, none⟩ = some (.slice A0 f0.length c0) := (blk_cell h 0).trans rfl
theorem cellS65_1 {W : World} {g : Nat} {A0 : Option Addr} {c0 : Nat} {f0 : List Int} {f1 : Int} (h : W.heap[g]? = some (.cells #[.slice A0 f0.length c0, .int .i64 f1] 65 (0, 0))) : W.cell? ⟨g, 1, none⟩ = some (.int .i64 f1) := (blk_cell h 1).trans rfl
theorem IsS65.set_1 {w0 W : World} {g : Nat} {f0 : List Int} {f1 : Int} (h : IsS65 w0 W g f0 f1) (x : Int) : IsS65 w0 (W.setCell ⟨g, 1, none⟩ (.int .i64 x)) g f0 x := by
 obtain ⟨A0, c0, hb, hg, hr0⟩ := h
 exact ⟨A0, c0, by simpa using blk_set hb 1 (.int .i64 x), hg, hr0⟩
theorem spec_l6Rd_pick.mono_l : ∀ k, (∀ y0 y1 y2 y3, LeO (spec_l6Rd_pick.j0 k y0 y1 y2 y3) (spec_l6Rd_pick.j0 (k + 1) y0 y1 y2 y3))
 | 0 => fun _ _ _ _ r h => by simp [spec_l6Rd_pick.j0] at h
 | k + 1 => by
  have ih0 := spec_l6Rd_pick.mono_l k
  ·intro y0 y1 y2 y3
   unfold spec_l6Rd_pick.j0
   exact mo_
theorem spec_l6Rd_pick.mono : ∀ a0 a1 a2 k, LeO (spec_l6Rd_pick.f k a0 a1 a2) (spec_l6Rd_pick.f (k + 1) a0 a1 a2) := by
 intro a0 a1 a2 k
 have ih0 := spec_l6Rd_pick.mono_l k
 unfold spec_l6Rd_pick.f
 exact mo_
theorem spec_l6Rd_pick.calls (k : Nat) (g : Nat) (s0_0 : List Int) (s0_1 : Int) (a1 : Int) (r1 : Int) (r2 : Int) (w0 w : World) (hI : IsS65 w0 w g s0_0 s0_1) (hB : Below w0.heap.size w0 w) (h : spec_l6Rd_pick.f k s0_0 s0_1 a1 = some (r1, r2)) :
  Calls Tryd.prog 45 #[.pointer (some ⟨g, 0, none⟩), .int .i64 a1] w fun e w' => e = .returned (.int .i64 r1) ∧ IsS65 w0 w' g s0_0 r2 ∧ Below w0.heap.size w0 w' ∧ KeepBut w w' g none := by
 have HI0 := am hI
 have HK := am (KeepBut.refl w g none)
 have HL := am hB.size
 clear hI
 have HW0 := am hB.size
 have HB := am hB
 clear hB
 have H : (if a1 < 1 then (spec_l6Rd_pick.j0 k a1 true s0_0 (wrap64 (s0_1 + 1))) else (spec_l6Rd_pick.j0 k a1 ((s0_0.length : Int) == 0) s0_0 (wrap64 (s0_1 + 1)))) = some (r1, r2) := h
 clear h
 have HC3 := am H
 clear H
 obtain ⟨ASz4_0, cSz4_0, HGz4, hgz4, HSz4_0⟩ := HI0.out
 have hcz4_0 := cellS65_0 HGz4
 have hcz4_1 := cellS65_1 HGz4
 have hfz4_1 := blk_frozen HGz4 1
 clear HGz4 hgz4
 go_enter Tryd.func45, Tryd.ntmps45
 go_upto_region 2 with (fail)
 repeat (go_quiet (fail); go_upto_region 2 with (fail))
 go_cut [24] (fun v24 wc => ∃ (kq : Nat) (x24_2 : Bool), v24 = .bool x24_2 ∧ Aside0 (spec_l6Rd_pick.j0 kq a1 x24_2 s0_0 (wrap64 (s0_1 + 1)) = some (r1, r2)) ∧ Aside0 (kq ≤ k) ∧ Aside0 (IsS65 w0 wc g s0_0 (wrap64 (s0_1 + 1))) ∧ Aside0 (KeepBut w wc g none) ∧ Aside0 (Below w0.heap.size w0 wc))
 case first =>
  have H := HC3.out
  clear HC3
  by_cases c5 : a1 < 1
  ·rw [if_pos c5] at H
   have c5b0 : decide (a1 < 1) = true := decide_eq_true c5
   clear c5
   (first | rw [c5b0] | (simp only [i64_w, i32_w]; rw [c5b0]) | skip)
   have H' := am H
   clear H
   go_wp2
   repeat (go_quiet (fail); try go_wp2)
   go_meet
   case rel => exact ⟨_, (true), sd_, H', ⟨by first | omega | exact Nat.le_refl _⟩, ⟨ab21_⟩, ⟨ab23_⟩, ⟨ab30_⟩⟩
  rw [if_neg c5] at H
  have c5b0 : decide (a1 < 1) = false := decide_eq_false c5
  clear c5
  (first | rw [c5b0] | (simp only [i64_w, i32_w]; rw [c5b0]) | skip)
  have H' := am H
  clear H
  obtain ⟨ASz6_0, cSz6_0, HGz6, hgz6, HSz6_0⟩ := HI0.out
  have hcz6_0 := cellS65_0 HGz6
  have hcz6_1 := cellS65_1 HGz6
  have hfz6_1 := blk_frozen HGz6 1
  clear HGz6 hgz6
  go_wp2
  repeat (go_quiet (fail); try go_wp2)
  go_meet
  case rel => exact ⟨_, (((s0_0.length : Int) == 0)), sd_, H', ⟨by first | omega | exact Nat.le_refl _⟩, ⟨ab21_⟩, ⟨ab23_⟩, ⟨ab30_⟩⟩
 case rest =>
  clear HC3
  try clear hcz4_0
  try clear hcz4_1
  try clear hfz4_1
  obtain ⟨kq, x24_2, rfl, HA, HJ2, HI0, HK, HB⟩ := hcut
  cases kq with
  | zero => exact absurd HA.out (by simp [spec_l6Rd_pick.j0])
  | succ kj2 =>
   have H := HA.out
   clear HA
   simp only [spec_l6Rd_pick.j0] at H
   by_cases c7 : x24_2 = true
   ·subst c7
    rw [if_pos rfl] at H
    simp only [Option.some.injEq, Prod.mk.injEq] at H
    obtain ⟨rfl, rfl⟩ := H
    go_wp2
    repeat (go_quiet (fail); try go_wp2)
    go_ret
    exact ⟨rr_, ab21_, ab30_, ab23_⟩
   replace c7 := Bool.eq_false_iff.mpr c7
   subst c7
   rw [if_neg (show ¬ (false = true) by decide)] at H
   by_cases c8 : (wrap64 ((wrap64 (s0_1 + 1)) - 1)) < (s0_0.length : Int)
   ·rw [if_pos c8] at H
    have c8b0 : decide ((wrap64 ((wrap64 (s0_1 + 1)) - 1)) < (s0_0.length : Int)) = true := decide_eq_true c8
    clear c8
    obtain ⟨ji9, hji9⟩ : ∃ j_ : Int, (wrap64 ((wrap64 (s0_1 + 1)) - 1)) = j_ := ⟨_, rfl⟩
    replace H : (if 0 ≤ (ji9) then (if a1 = 0 then (none) else (some (Int.tmod (wrap64 (rd s0_0 (ji9))) a1, (wrap64 (s0_1 + 1))))) else (none)) = some (r1, r2) := by first | (rw [hji9] at H; exact H) | (simp only [hji9] at H ⊢; exact H)
    (try rw [hji9] at c8b0)
    have hji9w : (IntKind.i64.wrap ((wrap64 (s0_1 + 1)) - 1)) = ji9 := (i64_w _).trans hji9
    by_cases c10 : 0 ≤ (ji9)
    ·rw [if_pos c10] at H
     have c10b0 : decide (0 ≤ (ji9)) = true := decide_eq_true c10
     clear c10
     by_cases c11 : a1 = 0
     ·rw [if_pos c11] at H
      exact absurd H (by simp)
     rw [if_neg c11] at H
     have c11b0 : (a1 == 0) = false := beq_eq_false_iff_ne.mpr c11
     have c11b1 : (a1 != 0) = true := bne_iff_ne.mpr c11
     simp only [Option.some.injEq, Prod.mk.injEq] at H
     obtain ⟨rfl, rfl⟩ := H
     obtain ⟨ASz12_0, cSz12_0, HGz12, hgz12, HSz12_0⟩ := HI0.out
     have hcz12_0 := cellS65_0 HGz12
     have hcz12_1 := cellS65_1 HGz12
     have hfz12_1 := blk_frozen HGz12 1
     clear HGz12 hgz12
     have p22 : 0 ≤ ((ji9) : Int) := of_decide_eq_true asm_
     have q22 : (ji9) < (s0_0.length : Int) := of_decide_eq_true asm_
     obtain ⟨ad22, e22, hx22_0⟩ := Kd.at_int HSz12_0 (ji9) p22 q22
     cases e22
     replace hx22_0 := pw_cell_below HB.out hx22_0
     replace p22 := eq_true p22
     replace q22 := eq_true q22
     go_wp2
     repeat (go_quiet (fail); try go_wp2)
     go_ret
     exact ⟨by first | rfl | (simp [errW_none, errW_some] <;> rfl) | (simp only [← hji9]; first | rfl | (simp [errW_none, errW_some] <;> rfl)) | (simp [*, errW_none, errW_some] <;> rfl), ab21_, ab30_, ab23_⟩
    rw [if_neg c10] at H
    exact absurd H (by simp)
   rw [if_neg c8] at H
   have c8b0 : decide ((wrap64 ((wrap64 (s0_1 + 1)) - 1)) < (s0_0.length : Int)) = false := decide_eq_false c8
   clear c8
   by_cases c13 : (s0_0.length : Int) = 0
   ·rw [if_pos c13] at H
    exact absurd H (by simp)
   rw [if_neg c13] at H
   have c13b0 : ((s0_0.length : Int) == 0) = false := beq_eq_false_iff_ne.mpr c13
   have c13b1 : ((s0_0.length : Int) != 0) = true := bne_iff_ne.mpr c13
   have c13b2 : ¬ (s0_0 = []) := fun h_ => c13 (by rw [h_]; rfl)
   obtain ⟨ji14, hji14⟩ : ∃ j_ : Int, (Int.tmod (wrap64 ((wrap64 (s0_1 + 1)) - 1)) (s0_0.length : Int)) = j_ := ⟨_, rfl⟩
   replace H : (if 0 ≤ (ji14) then (if (ji14) < (s0_0.length : Int) then (if 0 ≤ (Int.tmod (wrap64 ((wrap64 ((wrap64 ((wrap64 (s0_1 + 1)) - 1)) * 7)) + 3)) (s0_0.length : Int)) then (if (Int.tmod (wrap64 ((wrap64 ((wrap64 ((wrap64 (s0_1 + 1)) - 1)) * 7)) + 3)) (s0_0.length : Int)) < (s0_0.length : Int) then (if a1 = 0 then (none) else (some (Int.tmod (Go.bits .xor .i64 (wrap64 ((wrap64 ((wrap64 ((wrap64 ((wrap64 (rd s0_0 (ji14))) * 131)) + (wrap64 ((wrap64 (rd s0_0 (Int.tmod (wrap64 ((wrap64 ((wrap64 ((wrap64 (s0_1 + 1)) - 1)) * 7)) + 3)) (s0_0.length : Int)))) * 1117)))) + (wrap64 ((wrap64 ((wrap64 (s0_1 + 1)) - 1)) * 29)))) + (wrap64 ((wrap64 (Int.tdiv (wrap64 ((wrap64 (s0_1 + 1)) - 1)) (s0_0.length : Int))) * 53)))) (wrap64 (Int.tdiv (wrap64 ((wrap64 ((wrap64 ((wrap64 ((wrap64 (rd s0_0 (ji14))) * 131)) + (wrap64 ((wrap64 (rd s0_0 (Int.tmod (wrap64 ((wrap64 ((wrap64 ((wrap64 (s0_1 + 1)) - 1)) * 7)) + 3)) (s0_0.length : Int)))) * 1117)))) + (wrap64 ((wrap64 ((wrap64 (s0_1 + 1)) - 1)) * 29)))) + (wrap64 ((wrap64 (Int.tdiv (wrap64 ((wrap64 (s0_1 + 1)) - 1)) (s0_0.length : Int))) * 53)))) 64))) a1, (wrap64 (s0_1 + 1))))) else (none)) else (none)) else (none)) else (none)) = some (r1, r2) := by first | (rw [hji14] at H; exact H) | (simp only [hji14] at H ⊢; exact H)
   by_cases c15 : 0 ≤ (ji14)
   ·rw [if_pos c15] at H
    have c15b0 : decide (0 ≤ (ji14)) = true := decide_eq_true c15
    clear c15
    by_cases c16 : (ji14) < (s0_0.length : Int)
    ·rw [if_pos c16] at H
     have c16b0 : decide ((ji14) < (s0_0.length : Int)) = true := decide_eq_true c16
     clear c16
     obtain ⟨ji17, hji17⟩ : ∃ j_ : Int, (Int.tmod (wrap64 ((wrap64 ((wrap64 ((wrap64 (s0_1 + 1)) - 1)) * 7)) + 3)) (s0_0.length : Int)) = j_ := ⟨_, rfl⟩
     replace H : (if 0 ≤ (ji17) then (if (ji17) < (s0_0.length : Int) then (if a1 = 0 then (none) else (some (Int.tmod (Go.bits .xor .i64 (wrap64 ((wrap64 ((wrap64 ((wrap64 ((wrap64 (rd s0_0 (ji14))) * 131)) + (wrap64 ((wrap64 (rd s0_0 (ji17))) * 1117)))) + (wrap64 ((wrap64 ((wrap64 (s0_1 + 1)) - 1)) * 29)))) + (wrap64 ((wrap64 (Int.tdiv (wrap64 ((wrap64 (s0_1 + 1)) - 1)) (s0_0.length : Int))) * 53)))) (wrap64 (Int.tdiv (wrap64 ((wrap64 ((wrap64 ((wrap64 ((wrap64 (rd s0_0 (ji14))) * 131)) + (wrap64 ((wrap64 (rd s0_0 (ji17))) * 1117)))) + (wrap64 ((wrap64 ((wrap64 (s0_1 + 1)) - 1)) * 29)))) + (wrap64 ((wrap64 (Int.tdiv (wrap64 ((wrap64 (s0_1 + 1)) - 1)) (s0_0.length : Int))) * 53)))) 64))) a1, (wrap64 (s0_1 + 1))))) else (none)) else (none)) = some (r1, r2) := by first | (rw [hji17] at H; exact H) | (simp only [hji17] at H ⊢; exact H)
     by_cases c18 : 0 ≤ (ji17)
     ·rw [if_pos c18] at H
      have c18b0 : decide (0 ≤ (ji17)) = true := decide_eq_true c18
      clear c18
      by_cases c19 : (ji17) < (s0_0.length : Int)
      ·rw [if_pos c19] at H
       have c19b0 : decide ((ji17) < (s0_0.length : Int)) = true := decide_eq_true c19
       clear c19
       by_cases c20 : a1 = 0
       ·rw [if_pos c20] at H
        exact absurd H (by simp)
       rw [if_neg c20] at H
       have c20b0 : (a1 == 0) = false := beq_eq_false_iff_ne.mpr c20
       have c20b1 : (a1 != 0) = true := bne_iff_ne.mpr c20
       simp only [Option.some.injEq, Prod.mk.injEq] at H
       obtain ⟨rfl, rfl⟩ := H
       obtain ⟨ASz21_0, cSz21_0, HGz21, hgz21, HSz21_0⟩ := HI0.out
       have hcz21_0 := cellS65_0 HGz21
       have hcz21_1 := cellS65_1 HGz21
       have hfz21_1 := blk_frozen HGz21 1
       clear HGz21 hgz21
       have p23 : 0 ≤ ((ji14) : Int) := of_decide_eq_true asm_
       have q23 : (ji14) < (s0_0.length : Int) := of_decide_eq_true asm_
       obtain ⟨ad23, e23, hx23_0⟩ := Kd.at_int HSz21_0 (ji14) p23 q23
       cases e23
       replace hx23_0 := pw_cell_below HB.out hx23_0
       replace p23 := eq_true p23
       replace q23 := eq_true q23
       have p25 : 0 ≤ ((ji17) : Int) := of_decide_eq_true asm_
       have q25 : (ji17) < (s0_0.length : Int) := of_decide_eq_true asm_
       obtain ⟨ad25, e25, hx25_0⟩ := Kd.at_int HSz21_0 (ji17) p25 q25
       obtain rfl : ad23 = ad25 := (by injection e25)
       replace hx25_0 := pw_cell_below HB.out hx25_0
       replace p25 := eq_true p25
       replace q25 := eq_true q25
       go_wp2
       repeat (go_quiet (fail); try go_wp2)
       go_ret
       exact ⟨by first | rfl | (simp [errW_none, errW_some] <;> rfl) | (simp only [← hji14, ← hji17]; first | rfl | (simp [errW_none, errW_some] <;> rfl)) | (simp [*, errW_none, errW_some] <;> rfl), ab21_, ab30_, ab23_⟩
      rw [if_neg c19] at H
      exact absurd H (by simp)
     rw [if_neg c18] at H
     exact absurd H (by simp)
    rw [if_neg c16] at H
    exact absurd H (by simp)
   rw [if_neg c15] at H
   exact absurd H (by simp)
theorem spec_l4Leaf.calls (a0 : Int) (a1 : Int) (r1 : Int) (r2 : Int) (r3 : List (S29)) (w : World) (h : spec_l4Leaf.f a0 a1 = some (r1, r2, r3)) :
  Calls Tryd.prog 49 #[.int .i64 a0, .int .i64 a1] w fun e w' => ∃ v2_ : Value, e = .returned (.agg #[.int .i64 r1, .int .i64 r2, v2_]) ∧ Kd.R k29 29 w' w.heap.size (fun _ => True) v2_ r3 ∧ Below w.heap.size w w' := by
 have hu29 := Tryd.underlying29
 have HB := am (Below.refl w.heap.size w)
 have H : (some (a0, a1, (([] : List (S29))))) = some (r1, r2, r3) := h
 clear h
 obtain ⟨y20, hy_⟩ : ∃ y_ : List (S29), y_ = (([] : List (S29))) := ⟨_, rfl⟩
 replace H : (some (a0, a1, y20)) = some (r1, r2, r3) := rx_
 have Ny20 := am hy_
 clear hy_
 simp only [Option.some.injEq, Prod.mk.injEq] at H
 obtain ⟨rfl, rfl, rfl⟩ := H
 go_enter Tryd.func49, Tryd.ntmps49
 go_wp2_with (first | ((with_reducible refine gate_dst (N := 4) rfl ?_); refine box_event rfl (N := 4) rfl (cs := #[.int .i64 0, .int .i64 0, .slice none 0 0]) (t := 29) rn_ ?_; intro gb21 hg w3 hbox hb; have BK21 := am (hbox); have GW21 := am ((by rw [hg]; exact (below_size ab2_) : w.heap.size ≤ gb21)); have GE21 := am ((by rw [hg]; exact (below_size ab2_) : w.heap.size ≤ gb21)); replace HB := am (below_step ab2_ hb); clear hb hbox hg) | ((with_reducible refine gate_dst (N := 7) rfl ?_); refine Kd.R_lit k29 _ 29 rfl (N := 7) rfl (xs := ([] : List (S29))) (inner := []) (ok := fun _ => True) (okp := fun _ => True) rn_ ?hp (fun _ hk => hk) trivial (Below.refl _ _) (Nat.le_refl _) (by simp) ?_; (case hp => exact (Reps.none _ _)); intro v22 w4 ho5 hb hg_ hnew_; clear hg_ hnew_; (first | rw [← Ny20.out] at ho5 | (simp only [Int.reduceToNat] at ho5; rw [← Ny20.out] at ho5)); have HO23 := am (Kd.R_lower (Kd.R_newB ho5 (g := gb21) (o := .cells #[.int .i64 0, .int .i64 0, .slice none 0 0] 29 (0, 0)) (aG_ BK21.out)) (below_size ab18_)); replace BK21 := am (bbl_ BK21.out hb); replace HB := am (below_step ab18_ hb); clear hb ho5; obtain ⟨Ao6, co6, eo6⟩ := Kd.R_slice HO23.out; subst eo6; obtain ⟨hcz7_0, hcz7_1, hcz7_2, hfz7_0, hfz7_1, hfz7_2⟩ := bcf3_ BK21.out))
 refine bodyPost_ret (results_cell_row rfl _ _ gb21 29 #[.int .i64 a0, .int .i64 a1, .slice Ao6 y20.length co6] (0, 0) _ rfl (blk_put (blk_put (blk_put BK21.out 0 _ rfl) 1 _ rfl) 2 _ rfl) Tryd.underlying29 rfl (by kernel_rfl)) rfl ?_
 exact ⟨_, ab16_, aRw_ (Kd.R_mono (Kd.R_far (p := ⟨gb21, 2, none⟩) (Kd.R_far (p := ⟨gb21, 1, none⟩) (Kd.R_far (p := ⟨gb21, 0, none⟩) (Kd.R_mono HO23.out (fun k_ hk => (⟨hk, hk.2⟩ : _ ∧ k_ ≠ gb21))) (fun _ hk => hk.2) (.int .i64 a0)) (fun _ hk => hk.2) (.int .i64 a1)) (fun _ hk => hk.2) (.slice Ao6 y20.length co6)) (fun _ hk => trivial)), ab18_⟩
theorem spec_l91Leaf.mono : ∀ a0 a1 k, LeO (spec_l91Leaf.f k a0 a1) (spec_l91Leaf.f (k + 1) a0 a1) := by
 intro a0 a1 k
 unfold spec_l91Leaf.f
 have m0 := @spec_l6Rd_pick.mono
 exact mo_
theorem spec_l91Leaf.calls (k : Nat) (g : Nat) (s0_0 : List Int) (s0_1 : Int) (r1 : Int) (r2 : Int) (r3 : List (S29)) (r4 : Int) (w0 w : World) (hI : IsS65 w0 w g s0_0 s0_1) (hB : Below w0.heap.size w0 w) (h : spec_l91Leaf.f k s0_0 s0_1 = some (r1, r2, r3, r4)) :
  Calls Tryd.prog 46 #[.pointer (some ⟨g, 0, none⟩)] w fun e w' => ∃ v2_ : Value, e = .returned (.agg #[.int .i64 r1, .int .i64 r2, v2_]) ∧ Kd.R k29 29 w' w.heap.size (fun _ => True) v2_ r3 ∧ IsS65 w0 w' g s0_0 r4 ∧ Below w0.heap.size w0 w' ∧ KeepBut w w' g none := by
 have hu29 := Tryd.underlying29
 have HI0 := am hI
 have HK := am (KeepBut.refl w g none)
 have HL := am hB.size
 clear hI
 have HW0 := am hB.size
 have HB := am hB
 clear hB
 have H : ((spec_l6Rd_pick.f k s0_0 s0_1 4).bind fun bt30 => (if bt30.1 = 0 then ((spec_l6Rd_pick.f k s0_0 bt30.2 4).bind fun bt37 => ((spec_l4Leaf.f 0 bt37.1).bind fun bt38 => (some (bt38.1, bt38.2.1, bt38.2.2, bt37.2)))) else (if bt30.1 = 1 then ((some (([5, 31, 32, 100, 2047, 2048, 65536, 99999] : List Int) : List Int)).bind fun y39 => ((spec_l6Rd_pick.f k s0_0 bt30.2 8).bind fun bt41 => (if 0 ≤ bt41.1 then (if bt41.1 < (y39.length : Int) then ((spec_l4Leaf.f 0 (rd y39 bt41.1)).bind fun bt42 => (some (bt42.1, bt42.2.1, bt42.2.2, bt41.2))) else (none)) else (none)))) else ((spec_l6Rd_pick.f k s0_0 bt30.2 4).bind fun bt43 => ((spec_l4Leaf.f 13 bt43.1).bind fun bt44 => (some (bt44.1, bt44.2.1, bt44.2.2, bt43.2))))))) = some (r1, r2, r3, r4) := h
 clear h
 obtain ⟨⟨t30, t47⟩, A2, H⟩ := bsa H
 (try dsimp only at H)
 have HH_ := am H
 clear H
 go_enter Tryd.func46, Tryd.ntmps46
 go_upto_region 2 with (first | ((with_reducible refine gate_dst (N := 2) rfl ?_); refine box_event rfl (N := 2) rfl (cs := #[.int .i64 0, .int .i64 0, .slice none 0 0]) (t := 29) rn_ ?_; intro gb48 hg w6 hbox hb; replace HB := am (below_step ab30_ hb); have BK48 := am (hbox); have GW48 := am ((by rw [hg]; exact (keep_size (w := w) (g := g) (row := none) ab23_) : w.heap.size ≤ gb48)); have GE48 := am ((Nat.le_trans HW0.out (by rw [hg]; exact (keep_size (w := w) (g := g) (row := none) ab23_) : w.heap.size ≤ gb48) : w0.heap.size ≤ gb48)); replace HK := am (KeepBut.trans ab23_ (KeepBut.of_below hb g none) (.inl rfl)); have NB0_48 := am ((by rw [hg]; exact Nat.ne_of_lt (IsS65.lt (show IsS65 w0 _ g s0_0 s0_1 from ab21_)) : g ≠ gb48)); have NB48_0 := am ((by rw [hg]; exact Nat.ne_of_gt (IsS65.lt (show IsS65 w0 _ g s0_0 s0_1 from ab21_)) : gb48 ≠ g)); replace HI0 := am (IsS65.below ab21_ hb); clear hb hbox hg) | ((with_reducible refine gate_callee (f := 45) rfl ?_); refine gl_ 4 Tryd.func45 #[.pointer (some ⟨g, 0, none⟩), .int .i64 4] ?_; (with_reducible refine (spec_l6Rd_pick.calls k g s0_0 s0_1 4 t30 t47 w0 _ ?side1 ?side2 A2.out).mono ?_); (case side1 => exact ab25_); (case side2 => exact ab24_); rintro e w7 ⟨rfl, hi, hb, hk⟩; refine ⟨_, rfl, ?_⟩; replace BK48 := am (KeepBut.blk hk (g' := gb48) (o := .cells #[.int .i64 0, .int .i64 0, .slice none 0 0] 29 (0, 0)) (aG_ BK48.out) NB48_0.out (by simp)); replace HK := am (KeepBut.trans ab17_ hk (.inl rfl)); replace HB := am (hb); replace HI0 := am (hi); (try clear hb); (try clear hk); (try clear hi)))
 have H := HH_.out
 clear HH_
 by_cases c3 : t30 = 0
 ·rw [if_pos c3] at H
  have c3b0 : (t30 == 0) = true := beq_iff_eq.mpr c3
  have c3b1 : (t30 != 0) = false := bne_eq_false_iff_eq.mpr c3
  clear c3
  obtain ⟨⟨t37, t51⟩, A4, H⟩ := bsa H
  (try dsimp only at H)
  obtain ⟨⟨t38, t52, t53⟩, A5, H⟩ := bsa H
  (try dsimp only at H)
  simp only [Option.some.injEq, Prod.mk.injEq] at H
  obtain ⟨rfl, rfl, rfl, rfl⟩ := H
  go_wp2_with (first | ((with_reducible refine gate_callee (f := 45) rfl ?_); refine gl_ 8 Tryd.func45 #[.pointer (some ⟨g, 0, none⟩), .int .i64 4] ?_; (with_reducible refine (spec_l6Rd_pick.calls k g s0_0 t47 4 t37 t51 w0 _ ?side1 ?side2 A4.out).mono ?_); (case side1 => exact ab25_); (case side2 => exact ab24_); rintro e w8 ⟨rfl, hi, hb, hk⟩; refine ⟨_, rfl, ?_⟩; replace BK48 := am (KeepBut.blk hk (g' := gb48) (o := .cells #[.int .i64 0, .int .i64 0, .slice none 0 0] 29 (0, 0)) (aG_ BK48.out) NB48_0.out (by simp)); replace HK := am (KeepBut.trans ab17_ hk (.inl rfl)); replace HB := am (hb); replace HI0 := am (hi); (try clear hb); (try clear hk); (try clear hi)) | ((with_reducible refine gate_callee (f := 49) rfl ?_); refine gl_ 9 Tryd.func49 #[.int .i64 0, .int .i64 t37] ?_; (with_reducible refine (spec_l4Leaf.calls 0 t37 t38 t52 t53 _ A5.out).mono ?_); rintro e w9 ⟨v54, rfl, ho0, hb⟩; refine ⟨_, rfl, ?_⟩; have HO55 := am (Kd.R_lower (Kd.R_newB ho0 (g := gb48) (o := .cells #[.int .i64 0, .int .i64 0, .slice none 0 0] 29 (0, 0)) (aG_ BK48.out)) (keep_size (w := w) (g := g) (row := none) ab17_)); replace BK48 := am (bbl_ BK48.out hb); replace HK := am (KeepBut.trans ab17_ (KeepBut.of_below hb g none) (.inl rfl)); replace HB := am (below_step ab24_ hb); replace HI0 := am (IsS65.below ab25_ hb); (try clear hb); (try clear ho0); have hnb10 := NB48_0.out; have hnc10 := NB0_48.out; obtain ⟨hcz11_0, hcz11_1, hcz11_2, hfz11_0, hfz11_1, hfz11_2⟩ := bcf3_ BK48.out; obtain ⟨Ao12, co12, eo12⟩ := Kd.R_slice HO55.out; subst eo12))
  refine bodyPost_ret (results_cell_row rfl _ _ gb48 29 #[.int .i64 t38, .int .i64 t52, .slice Ao12 t53.length co12] (0, 0) _ rfl (blk_put (blk_put (blk_put BK48.out 0 _ rfl) 1 _ rfl) 2 _ rfl) Tryd.underlying29 rfl (by kernel_rfl)) rfl ?_
  exact ⟨_, ab16_, aRw_ (Kd.R_mono (Kd.R_far (p := ⟨gb48, 2, none⟩) (Kd.R_far (p := ⟨gb48, 1, none⟩) (Kd.R_far (p := ⟨gb48, 0, none⟩) (Kd.R_mono HO55.out (fun k_ hk => (⟨hk, hk.2⟩ : _ ∧ k_ ≠ gb48))) (fun _ hk => hk.2) (.int .i64 t38)) (fun _ hk => hk.2) (.int .i64 t52)) (fun _ hk => hk.2) (.slice Ao12 t53.length co12)) (fun _ hk => trivial)), ab25_, ab24_, ab17_⟩
 rw [if_neg c3] at H
 have c3b0 : (t30 == 0) = false := beq_eq_false_iff_ne.mpr c3
 have c3b1 : (t30 != 0) = true := bne_iff_ne.mpr c3
 by_cases c13 : t30 = 1
 ·rw [if_pos c13] at H
  have c13b0 : (t30 == 1) = true := beq_iff_eq.mpr c13
  have c13b1 : (t30 != 1) = false := bne_eq_false_iff_eq.mpr c13
  clear c13
  obtain ⟨y39, hy_⟩ : ∃ y_ : List Int, y_ = (([5, 31, 32, 100, 2047, 2048, 65536, 99999] : List Int)) := ⟨_, rfl⟩
  replace H : ((spec_l6Rd_pick.f k s0_0 t47 8).bind fun bt41 => (if 0 ≤ bt41.1 then (if bt41.1 < (y39.length : Int) then ((spec_l4Leaf.f 0 (rd y39 bt41.1)).bind fun bt42 => (some (bt42.1, bt42.2.1, bt42.2.2, bt41.2))) else (none)) else (none))) = some (r1, r2, r3, r4) := rx_
  have Ny39 := am hy_
  clear hy_
  obtain ⟨⟨t41, t56⟩, A57, H⟩ := bsm H
  (try dsimp only at H)
  have A14 := am A57
  clear A57
  by_cases c15 : 0 ≤ t41
  ·rw [if_pos c15] at H
   have c15b0 : decide (0 ≤ t41) = true := decide_eq_true c15
   clear c15
   by_cases c16 : t41 < (y39.length : Int)
   ·rw [if_pos c16] at H
    have c16b0 : decide (t41 < (y39.length : Int)) = true := decide_eq_true c16
    clear c16
    obtain ⟨⟨t42, t58, t59⟩, A17, H⟩ := bsa H
    (try dsimp only at H)
    simp only [Option.some.injEq, Prod.mk.injEq] at H
    obtain ⟨rfl, rfl, rfl, rfl⟩ := H
    go_wp2_with (first | ((with_reducible refine gate_dst (N := 12) rfl ?_); refine Kd.R_lit (Kd.int .i64) _ 3 rfl (N := 12) rfl (xs := ([5, 31, 32, 100, 2047, 2048, 65536, 99999] : List Int)) (inner := [.int .i64 5, .int .i64 31, .int .i64 32, .int .i64 100, .int .i64 2047, .int .i64 2048, .int .i64 65536, .int .i64 99999]) (ok := fun _ => True) (okp := fun _ => True) rn_ ?hp (fun _ hk => hk) trivial (Below.refl _ _) (Nat.le_refl _) (by simp) ?_; (case hp => exact (Reps.one (show Kd.M (Kd.int .i64) _ _ _ 5 [.int .i64 5] from rfl) (Reps.one (show Kd.M (Kd.int .i64) _ _ _ 31 [.int .i64 31] from rfl) (Reps.one (show Kd.M (Kd.int .i64) _ _ _ 32 [.int .i64 32] from rfl) (Reps.one (show Kd.M (Kd.int .i64) _ _ _ 100 [.int .i64 100] from rfl) (Reps.one (show Kd.M (Kd.int .i64) _ _ _ 2047 [.int .i64 2047] from rfl) (Reps.one (show Kd.M (Kd.int .i64) _ _ _ 2048 [.int .i64 2048] from rfl) (Reps.one (show Kd.M (Kd.int .i64) _ _ _ 65536 [.int .i64 65536] from rfl) (Reps.one (show Kd.M (Kd.int .i64) _ _ _ 99999 [.int .i64 99999] from rfl) (Reps.none _ _)))))))))); intro v61 w20 ho21 hb hg_ hnew_; clear hg_ hnew_; (first | rw [← Ny39.out] at ho21 | (simp only [Int.reduceToNat] at ho21; rw [← Ny39.out] at ho21)); have HO62 := am (Kd.R_lower ho21 (keep_size (w := w) (g := g) (row := none) ab17_)); replace BK48 := am (bbl_ BK48.out hb); replace HK := am (KeepBut.trans ab17_ (KeepBut.of_below hb g none) (.inl rfl)); replace HB := am (below_step ab24_ hb); replace HI0 := am (IsS65.below ab25_ hb); clear hb ho21) | ((with_reducible refine gate_callee (f := 45) rfl ?_); refine gl_ 14 Tryd.func45 #[.pointer (some ⟨g, 0, none⟩), .int .i64 8] ?_; (with_reducible refine (spec_l6Rd_pick.calls k g s0_0 t47 8 t41 t56 w0 _ ?side1 ?side2 A14.out).mono ?_); (case side1 => exact ab25_); (case side2 => exact ab24_); rintro e w22 ⟨rfl, hi, hb, hk⟩; refine ⟨_, rfl, ?_⟩; replace BK48 := am (KeepBut.blk hk (g' := gb48) (o := .cells #[.int .i64 0, .int .i64 0, .slice none 0 0] 29 (0, 0)) (aG_ BK48.out) NB48_0.out (by simp)); replace HO62 := am (Kd.R_mono (Kd.R_keep (IsS65.apart (show IsS65 w0 _ g s0_0 t47 from ab25_) (aR_ HO62.out) (by decide)) hk (fun _ h => h.2)) (fun _ h => h.1)); replace HK := am (KeepBut.trans ab17_ hk (.inl rfl)); replace HB := am (hb); replace HI0 := am (hi); (try clear hb); (try clear hk); (try clear hi); obtain ⟨Ao23, co23, eo23⟩ := Kd.R_slice HO62.out; subst eo23; have p63 : 0 ≤ (t41 : Int) := of_decide_eq_true asm_; have q63 : t41 < (y39.length : Int) := of_decide_eq_true asm_; obtain ⟨ad63, e63, hx63_0⟩ := Kd.at_int (Kd.R_reads' HO62.out).2.2 t41 p63 q63; cases e63; replace p63 := eq_true p63; replace q63 := eq_true q63) | ((with_reducible refine gate_callee (f := 49) rfl ?_); refine gl_ 17 Tryd.func49 #[.int .i64 0, .int .i64 (rd y39 t41)] ?_; (with_reducible refine (spec_l4Leaf.calls 0 (rd y39 t41) t42 t58 t59 _ A17.out).mono ?_); rintro e w24 ⟨v66, rfl, ho0, hb⟩; refine ⟨_, rfl, ?_⟩; replace HO62 := am (Kd.R_below (aR_ HO62.out) hb); have HO67 := am (Kd.R_lower (Kd.R_newB ho0 (g := gb48) (o := .cells #[.int .i64 0, .int .i64 0, .slice none 0 0] 29 (0, 0)) (aG_ BK48.out)) (keep_size (w := w) (g := g) (row := none) ab17_)); replace BK48 := am (bbl_ BK48.out hb); replace HK := am (KeepBut.trans ab17_ (KeepBut.of_below hb g none) (.inl rfl)); replace HB := am (below_step ab24_ hb); replace HI0 := am (IsS65.below ab25_ hb); (try clear hb); (try clear ho0); have hnb25 := NB48_0.out; have hnc25 := NB0_48.out; obtain ⟨hcz26_0, hcz26_1, hcz26_2, hfz26_0, hfz26_1, hfz26_2⟩ := bcf3_ BK48.out; obtain ⟨Ao27, co27, eo27⟩ := Kd.R_slice HO67.out; subst eo27))
    refine bodyPost_ret (results_cell_row rfl _ _ gb48 29 #[.int .i64 t42, .int .i64 t58, .slice Ao27 t59.length co27] (0, 0) _ rfl (blk_put (blk_put (blk_put BK48.out 0 _ rfl) 1 _ rfl) 2 _ rfl) Tryd.underlying29 rfl (by kernel_rfl)) rfl ?_
    exact ⟨_, ab16_, aRw_ (Kd.R_mono (Kd.R_far (p := ⟨gb48, 2, none⟩) (Kd.R_far (p := ⟨gb48, 1, none⟩) (Kd.R_far (p := ⟨gb48, 0, none⟩) (Kd.R_mono HO67.out (fun k_ hk => (⟨hk, hk.2⟩ : _ ∧ k_ ≠ gb48))) (fun _ hk => hk.2) (.int .i64 t42)) (fun _ hk => hk.2) (.int .i64 t58)) (fun _ hk => hk.2) (.slice Ao27 t59.length co27)) (fun _ hk => trivial)), ab25_, ab24_, ab17_⟩
   rw [if_neg c16] at H
   exact absurd H (by simp)
  rw [if_neg c15] at H
  exact absurd H (by simp)
 rw [if_neg c13] at H
 have c13b0 : (t30 == 1) = false := beq_eq_false_iff_ne.mpr c13
 have c13b1 : (t30 != 1) = true := bne_iff_ne.mpr c13
 obtain ⟨⟨t43, t68⟩, A69, H⟩ := bsm H
 (try dsimp only at H)
 have A28 := am A69
 clear A69
 obtain ⟨⟨t44, t70, t71⟩, A72, H⟩ := bsm H
 (try dsimp only at H)
 have A29 := am A72
 clear A72
 simp only [Option.some.injEq, Prod.mk.injEq] at H
 obtain ⟨rfl, rfl, rfl, rfl⟩ := H
 go_wp2_with (first | ((with_reducible refine gate_callee (f := 45) rfl ?_); refine gl_ 19 Tryd.func45 #[.pointer (some ⟨g, 0, none⟩), .int .i64 4] ?_; (with_reducible refine (spec_l6Rd_pick.calls k g s0_0 t47 4 t43 t68 w0 _ ?side1 ?side2 A28.out).mono ?_); (case side1 => exact ab25_); (case side2 => exact ab24_); rintro e w32 ⟨rfl, hi, hb, hk⟩; refine ⟨_, rfl, ?_⟩; replace BK48 := am (KeepBut.blk hk (g' := gb48) (o := .cells #[.int .i64 0, .int .i64 0, .slice none 0 0] 29 (0, 0)) (aG_ BK48.out) NB48_0.out (by simp)); replace HK := am (KeepBut.trans ab17_ hk (.inl rfl)); replace HB := am (hb); replace HI0 := am (hi); (try clear hb); (try clear hk); (try clear hi)) | ((with_reducible refine gate_callee (f := 49) rfl ?_); refine gl_ 20 Tryd.func49 #[.int .i64 13, .int .i64 t43] ?_; (with_reducible refine (spec_l4Leaf.calls 13 t43 t44 t70 t71 _ A29.out).mono ?_); rintro e w33 ⟨v73, rfl, ho0, hb⟩; refine ⟨_, rfl, ?_⟩; have HO74 := am (Kd.R_lower (Kd.R_newB ho0 (g := gb48) (o := .cells #[.int .i64 0, .int .i64 0, .slice none 0 0] 29 (0, 0)) (aG_ BK48.out)) (keep_size (w := w) (g := g) (row := none) ab17_)); replace BK48 := am (bbl_ BK48.out hb); replace HK := am (KeepBut.trans ab17_ (KeepBut.of_below hb g none) (.inl rfl)); replace HB := am (below_step ab24_ hb); replace HI0 := am (IsS65.below ab25_ hb); (try clear hb); (try clear ho0); have hnb34 := NB48_0.out; have hnc34 := NB0_48.out; obtain ⟨hcz35_0, hcz35_1, hcz35_2, hfz35_0, hfz35_1, hfz35_2⟩ := bcf3_ BK48.out; obtain ⟨Ao36, co36, eo36⟩ := Kd.R_slice HO74.out; subst eo36))
 refine bodyPost_ret (results_cell_row rfl _ _ gb48 29 #[.int .i64 t44, .int .i64 t70, .slice Ao36 t71.length co36] (0, 0) _ rfl (blk_put (blk_put (blk_put BK48.out 0 _ rfl) 1 _ rfl) 2 _ rfl) Tryd.underlying29 rfl (by kernel_rfl)) rfl ?_
 exact ⟨_, ab16_, aRw_ (Kd.R_mono (Kd.R_far (p := ⟨gb48, 2, none⟩) (Kd.R_far (p := ⟨gb48, 1, none⟩) (Kd.R_far (p := ⟨gb48, 0, none⟩) (Kd.R_mono HO74.out (fun k_ hk => (⟨hk, hk.2⟩ : _ ∧ k_ ≠ gb48))) (fun _ hk => hk.2) (.int .i64 t44)) (fun _ hk => hk.2) (.int .i64 t70)) (fun _ hk => hk.2) (.slice Ao36 t71.length co36)) (fun _ hk => trivial)), ab25_, ab24_, ab17_⟩
theorem spec_l4Both.calls (a0 : Int) (a1_0 : Int) (a1_1 : Int) (P1_2_ : Nat → Prop) (A1_2 : Option Addr) (c1_2 : Nat) (l1_2 : List (S29)) (a2_0 : Int) (a2_1 : Int) (P2_2_ : Nat → Prop) (A2_2 : Option Addr) (c2_2 : Nat) (l2_2 : List (S29)) (r1 : Int) (r2 : Int) (r3 : List (S29)) (w : World) (hs1_2 : Kd.V k29 29 w w.heap.size (fun k_ => P1_2_ k_) (.slice A1_2 l1_2.length c1_2) l1_2) (hs2_2 : Kd.V k29 29 w w.heap.size (fun k_ => P2_2_ k_) (.slice A2_2 l2_2.length c2_2) l2_2) (h : spec_l4Both.f a0 a1_0 a1_1 l1_2 a2_0 a2_1 l2_2 = some (r1, r2, r3)) :
  Calls Tryd.prog 47 #[.int .i64 a0, .agg #[.int .i64 a1_0, .int .i64 a1_1, .slice A1_2 l1_2.length c1_2], .agg #[.int .i64 a2_0, .int .i64 a2_1, .slice A2_2 l2_2.length c2_2]] w fun e w' => ∃ v2_ : Value, e = .returned (.agg #[.int .i64 r1, .int .i64 r2, v2_]) ∧ Kd.N k29 29 w' w.heap.size (fun k_ => ((P1_2_ k_ ∨ P2_2_ k_) ∨ w.heap.size ≤ k_)) v2_ r3 ∧ Below w.heap.size w w' := by
 have hu29 := Tryd.underlying29
 have HO1_2 := am (show Kd.V k29 29 w w.heap.size (fun k_ => ((P1_2_ k_ ∨ P2_2_ k_) ∨ w.heap.size ≤ k_)) (.slice A1_2 l1_2.length c1_2) l1_2 from Kd.V_mono hs1_2 (fun k_ hk => .inl (.inl hk)))
 have HO2_2 := am (show Kd.V k29 29 w w.heap.size (fun k_ => ((P1_2_ k_ ∨ P2_2_ k_) ∨ w.heap.size ≤ k_)) (.slice A2_2 l2_2.length c2_2) l2_2 from Kd.V_mono hs2_2 (fun k_ hk => .inl (.inr hk)))
 have HB := am (Below.refl w.heap.size w)
 have H : (some (a0, 0, (([(⟨a1_0, a1_1, l1_2⟩ : S29), (⟨a2_0, a2_1, l2_2⟩ : S29)] : List (S29))))) = some (r1, r2, r3) := h
 clear h
 obtain ⟨y20, hy_⟩ : ∃ y_ : List (S29), y_ = (([(⟨a1_0, a1_1, l1_2⟩ : S29), (⟨a2_0, a2_1, l2_2⟩ : S29)] : List (S29))) := ⟨_, rfl⟩
 replace H : (some (a0, 0, y20)) = some (r1, r2, r3) := rx_
 have Ny20 := am hy_
 clear hy_
 simp only [Option.some.injEq, Prod.mk.injEq] at H
 obtain ⟨rfl, rfl, rfl⟩ := H
 go_enter Tryd.func47, Tryd.ntmps47
 go_wp2_with (first | ((with_reducible refine gate_dst (N := 4) rfl ?_); refine box_event rfl (N := 4) rfl (cs := #[.int .i64 a1_0, .int .i64 a1_1, .slice A1_2 l1_2.length c1_2]) (t := 29) rn_ ?_; intro gb21 hg w4 hbox hb; replace HO1_2 := am (Kd.V_below (Kd.V_elderB (by (with_reducible repeat (first | apply Kd.V_alloc | apply Kd.V_drewN | apply Kd.V_drew)); exact HO1_2.out) gb21 (Nat.le_of_eq hg.symm)) hb); replace HO2_2 := am (Kd.V_below (Kd.V_elderB (by (with_reducible repeat (first | apply Kd.V_alloc | apply Kd.V_drewN | apply Kd.V_drew)); exact HO2_2.out) gb21 (Nat.le_of_eq hg.symm)) hb); have BK21 := am (hbox); have GW21 := am ((by rw [hg]; exact (below_size ab2_) : w.heap.size ≤ gb21)); have GE21 := am ((by rw [hg]; exact (below_size ab2_) : w.heap.size ≤ gb21)); replace HB := am (below_step ab2_ hb); clear hb hbox hg) | ((with_reducible refine gate_dst (N := 5) rfl ?_); refine box_event rfl (N := 5) rfl (cs := #[.int .i64 a2_0, .int .i64 a2_1, .slice A2_2 l2_2.length c2_2]) (t := 29) rn_ ?_; intro gb22 hg w5 hbox hb; replace HO1_2 := am (Kd.V_below (Kd.V_elderB (by (with_reducible repeat (first | apply Kd.V_alloc | apply Kd.V_drewN | apply Kd.V_drew)); exact HO1_2.out) gb22 (Nat.le_of_eq hg.symm)) hb); replace HO2_2 := am (Kd.V_below (Kd.V_elderB (by (with_reducible repeat (first | apply Kd.V_alloc | apply Kd.V_drewN | apply Kd.V_drew)); exact HO2_2.out) gb22 (Nat.le_of_eq hg.symm)) hb); have BK22 := am (hbox); have GW22 := am ((by rw [hg]; exact (below_size ab18_) : w.heap.size ≤ gb22)); have GE22 := am ((by rw [hg]; exact (below_size ab18_) : w.heap.size ≤ gb22)); replace HB := am (below_step ab18_ hb); have NB21_22 := am ((by rw [hg]; exact Nat.ne_of_lt (blt_ BK21.out) : gb21 ≠ gb22)); have NB22_21 := am ((by rw [hg]; exact Nat.ne_of_gt (blt_ BK21.out) : gb22 ≠ gb21)); replace BK21 := am (bbl_ BK21.out hb); clear hb hbox hg) | ((with_reducible refine gate_dst (N := 6) rfl ?_); refine box_event rfl (N := 6) rfl (cs := #[.int .i64 0, .int .i64 0, .slice none 0 0]) (t := 29) rn_ ?_; intro gb23 hg w6 hbox hb; replace HO1_2 := am (Kd.V_below (Kd.V_elderB (by (with_reducible repeat (first | apply Kd.V_alloc | apply Kd.V_drewN | apply Kd.V_drew)); exact HO1_2.out) gb23 (Nat.le_of_eq hg.symm)) hb); replace HO2_2 := am (Kd.V_below (Kd.V_elderB (by (with_reducible repeat (first | apply Kd.V_alloc | apply Kd.V_drewN | apply Kd.V_drew)); exact HO2_2.out) gb23 (Nat.le_of_eq hg.symm)) hb); have BK23 := am (hbox); have GW23 := am ((by rw [hg]; exact (below_size ab29_) : w.heap.size ≤ gb23)); have GE23 := am ((by rw [hg]; exact (below_size ab29_) : w.heap.size ≤ gb23)); replace HB := am (below_step ab29_ hb); have NB21_23 := am ((by rw [hg]; exact Nat.ne_of_lt (blt_ BK21.out) : gb21 ≠ gb23)); have NB23_21 := am ((by rw [hg]; exact Nat.ne_of_gt (blt_ BK21.out) : gb23 ≠ gb21)); replace BK21 := am (bbl_ BK21.out hb); have NB22_23 := am ((by rw [hg]; exact Nat.ne_of_lt (blt_ BK22.out) : gb22 ≠ gb23)); have NB23_22 := am ((by rw [hg]; exact Nat.ne_of_gt (blt_ BK22.out) : gb23 ≠ gb22)); replace BK22 := am (bbl_ BK22.out hb); clear hb hbox hg; have hnb7 := NB21_22.out; have hnc7 := NB22_21.out; have hnb8 := NB21_23.out; have hnc8 := NB23_21.out; obtain ⟨hcz9_0, hcz9_1, hcz9_2, hfz9_0, hfz9_1, hfz9_2⟩ := bcf3_ BK21.out; have hnb10 := NB22_23.out; have hnc10 := NB23_22.out; obtain ⟨hcz11_0, hcz11_1, hcz11_2, hfz11_0, hfz11_1, hfz11_2⟩ := bcf3_ BK22.out) | ((with_reducible refine gate_dst (N := 10) rfl ?_); refine Kd.N_lit k29 _ 29 rfl (N' := 10) rfl (xs := ([(⟨a1_0, a1_1, l1_2⟩ : S29), (⟨a2_0, a2_1, l2_2⟩ : S29)] : List (S29))) (inner := [.int .i64 a1_0, .int .i64 a1_1, .slice A1_2 l1_2.length c1_2, .int .i64 a2_0, .int .i64 a2_1, .slice A2_2 l2_2.length c2_2]) (ok := (fun k_ => ((P1_2_ k_ ∨ P2_2_ k_) ∨ w.heap.size ≤ k_) ∧ k_ ≠ gb21 ∧ k_ ≠ gb22 ∧ k_ ≠ gb23)) (okp := (fun k_ => ((P1_2_ k_ ∨ P2_2_ k_) ∨ w.heap.size ≤ k_) ∧ k_ ≠ gb21 ∧ k_ ≠ gb22 ∧ k_ ≠ gb23)) rn_ ?hp (fun _ hk => hk) ((show ∀ k_, w6.heap.size ≤ k_ → (fun k_ => ((P1_2_ k_ ∨ P2_2_ k_) ∨ w.heap.size ≤ k_) ∧ k_ ≠ gb21 ∧ k_ ≠ gb22 ∧ k_ ≠ gb23) k_ from fun k_ hk => ⟨(.inr (Nat.le_trans (below_size ab43_) hk)), frb_ BK21.out k_ hk, frb_ BK22.out k_ hk, frb_ BK23.out k_ hk⟩) _ (Nat.le_refl _)) (Below.refl _ _) (Nat.le_refl _) (by simp) ?_; (case hp => exact (Reps.c3 (show Kd.FK k29 _ _ (⟨a1_0, a1_1, l1_2⟩ : S29) [.int .i64 a1_0, .int .i64 a1_1, .slice A1_2 l1_2.length c1_2] from (k29_mkF _ _ (⟨a1_0, a1_1, l1_2⟩ : S29) (Kd.V_reads' (Kd.V_mono (ok' := (fun k_ => ((P1_2_ k_ ∨ P2_2_ k_) ∨ w.heap.size ≤ k_) ∧ k_ ≠ gb21 ∧ k_ ≠ gb22 ∧ k_ ≠ gb23)) (HO1_2.out) (fun k_ hk => ⟨hk.1.1.1, ⟨hk.1.1.2, ⟨hk.1.2, hk.2⟩⟩⟩))).2.1 (Kd.V_F (Kd.V_mono (ok' := (fun k_ => ((P1_2_ k_ ∨ P2_2_ k_) ∨ w.heap.size ≤ k_) ∧ k_ ≠ gb21 ∧ k_ ≠ gb22 ∧ k_ ≠ gb23)) (HO1_2.out) (fun k_ hk => ⟨hk.1.1.1, ⟨hk.1.1.2, ⟨hk.1.2, hk.2⟩⟩⟩))))) (Reps.c3 (show Kd.FK k29 _ _ (⟨a2_0, a2_1, l2_2⟩ : S29) [.int .i64 a2_0, .int .i64 a2_1, .slice A2_2 l2_2.length c2_2] from (k29_mkF _ _ (⟨a2_0, a2_1, l2_2⟩ : S29) (Kd.V_reads' (Kd.V_mono (ok' := (fun k_ => ((P1_2_ k_ ∨ P2_2_ k_) ∨ w.heap.size ≤ k_) ∧ k_ ≠ gb21 ∧ k_ ≠ gb22 ∧ k_ ≠ gb23)) (HO2_2.out) (fun k_ hk => ⟨hk.1.1.1, ⟨hk.1.1.2, ⟨hk.1.2, hk.2⟩⟩⟩))).2.1 (Kd.V_F (Kd.V_mono (ok' := (fun k_ => ((P1_2_ k_ ∨ P2_2_ k_) ∨ w.heap.size ≤ k_) ∧ k_ ≠ gb21 ∧ k_ ≠ gb22 ∧ k_ ≠ gb23)) (HO2_2.out) (fun k_ hk => ⟨hk.1.1.1, ⟨hk.1.1.2, ⟨hk.1.2, hk.2⟩⟩⟩))))) (Reps.none _ _)))); intro v24 w12 ho13 hb hg_ hnew_; clear hg_ hnew_; (first | rw [← Ny20.out] at ho13 | (simp only [Int.reduceToNat] at ho13; rw [← Ny20.out] at ho13)); replace HO1_2 := am (Kd.V_elder' (by (with_reducible repeat (first | apply Kd.V_alloc | apply Kd.V_drewN | apply Kd.V_drew)); exact HO1_2.out) (Kd.N_base ho13) hb); replace HO2_2 := am (Kd.V_elder' (by (with_reducible repeat (first | apply Kd.V_alloc | apply Kd.V_drewN | apply Kd.V_drew)); exact HO2_2.out) (Kd.N_base ho13) hb); have HO25 := am (Kd.N_lower ho13 (below_size ab43_)); replace BK21 := am (bbl_ BK21.out hb); replace BK22 := am (bbl_ BK22.out hb); replace BK23 := am (bbl_ BK23.out hb); replace HB := am (below_step ab43_ hb); clear hb ho13; obtain ⟨Ao14, co14, eo14⟩ := Kd.N_slice HO25.out; subst eo14; obtain ⟨hcz15_0, hcz15_1, hcz15_2, hfz15_0, hfz15_1, hfz15_2⟩ := bcf3_ BK23.out))
 refine bodyPost_ret (results_cell_row rfl _ _ gb23 29 #[.int .i64 a0, .int .i64 0, .slice Ao14 y20.length co14] (0, 0) _ rfl (blk_put (blk_put (blk_put BK23.out 0 _ rfl) 1 _ rfl) 2 _ rfl) Tryd.underlying29 rfl (by kernel_rfl)) rfl ?_
 exact ⟨_, ab16_, aNw_ (Kd.N_mono (Kd.N_far (p := ⟨gb23, 2, none⟩) (Kd.N_far (p := ⟨gb23, 1, none⟩) (Kd.N_far (p := ⟨gb23, 0, none⟩) (Kd.N_mono HO25.out (fun k_ hk => (⟨hk, hk.2.2.2⟩ : _ ∧ k_ ≠ gb23))) (fun _ hk => hk.2) (.int .i64 a0)) (fun _ hk => hk.2) (.int .i64 0)) (fun _ hk => hk.2) (.slice Ao14 y20.length co14)) (fun _ hk => hk.1.1)), ab43_⟩
theorem spec_l91Op.mono : ∀ a0 a1 k, LeO (spec_l91Op.f k a0 a1) (spec_l91Op.f (k + 1) a0 a1) := by
 intro a0 a1 k
 unfold spec_l91Op.f
 have m0 := @spec_l6Rd_pick.mono
 exact mo_
theorem spec_l91Op.calls (k : Nat) (g : Nat) (s0_0 : List Int) (s0_1 : Int) (r1 : Int) (r2 : Int) (w0 w : World) (hI : IsS65 w0 w g s0_0 s0_1) (hB : Below w0.heap.size w0 w) (h : spec_l91Op.f k s0_0 s0_1 = some (r1, r2)) :
  Calls Tryd.prog 48 #[.pointer (some ⟨g, 0, none⟩)] w fun e w' => e = .returned (.int .i64 r1) ∧ IsS65 w0 w' g s0_0 r2 ∧ Below w0.heap.size w0 w' ∧ KeepBut w w' g none := by
 have HI0 := am hI
 have HK := am (KeepBut.refl w g none)
 have HL := am hB.size
 clear hI
 have HW0 := am hB.size
 have HB := am hB
 clear hB
 have H : ((spec_l6Rd_pick.f k s0_0 s0_1 12).bind fun bt21 => (some (wrap64 (1 + bt21.1), bt21.2))) = some (r1, r2) := h
 clear h
 obtain ⟨⟨t21, t22⟩, A2, H⟩ := bsa H
 (try dsimp only at H)
 simp only [Option.some.injEq, Prod.mk.injEq] at H
 obtain ⟨rfl, rfl⟩ := H
 go_enter Tryd.func48, Tryd.ntmps48
 go_wp2_with (first | ((with_reducible refine gate_callee (f := 45) rfl ?_); refine gl_ 4 Tryd.func45 #[.pointer (some ⟨g, 0, none⟩), .int .i64 12] ?_; (with_reducible refine (spec_l6Rd_pick.calls k g s0_0 s0_1 12 t21 t22 w0 _ ?side1 ?side2 A2.out).mono ?_); (case side1 => exact ab21_); (case side2 => exact ab30_); rintro e w3 ⟨rfl, hi, hb, hk⟩; refine ⟨_, rfl, ?_⟩; replace HK := am (KeepBut.trans ab23_ hk (.inl rfl)); replace HB := am (hb); replace HI0 := am (hi); (try clear hb); (try clear hk); (try clear hi)))
 go_ret
 exact ⟨rr_, ab21_, ab30_, ab23_⟩
theorem spec_l91Expr.mono_l : ∀ k, (∀ y0 y1 y2, LeO (spec_l91Expr.f k y0 y1 y2) (spec_l91Expr.f (k + 1) y0 y1 y2)) ∧ (∀ y0 y1 y2 y3, LeO (spec_l91Expr.j0 k y0 y1 y2 y3) (spec_l91Expr.j0 (k + 1) y0 y1 y2 y3))
 | 0 => ⟨fun _ _ _ r h => by simp [spec_l91Expr.f] at h, fun _ _ _ _ r h => by simp [spec_l91Expr.j0] at h⟩
 | k + 1 => by
  obtain ⟨ih0, ih1⟩ := spec_l91Expr.mono_l k
  refine ⟨?_, ?_⟩
  ·intro y0 y1 y2
   unfold spec_l91Expr.f
   have m0 := @spec_l6Rd_pick.mono
   have m1 := @spec_l91Leaf.mono
   have m2 := @spec_l91Op.mono
   exact mo_
  ·intro y0 y1 y2 y3
   unfold spec_l91Expr.j0
   have m0 := @spec_l6Rd_pick.mono
   have m1 := @spec_l91Leaf.mono
   have m2 := @spec_l91Op.mono
   exact mo_
theorem spec_l91Expr.mono : ∀ a0 a1 a2 k, LeO (spec_l91Expr.f k a0 a1 a2) (spec_l91Expr.f (k + 1) a0 a1 a2) := by
 intro a0 a1 a2 k
 obtain ⟨ih0, ih1⟩ := spec_l91Expr.mono_l k
 exact ih0 a0 a1 a2
def spec_l91Expr.T5 : Bool × List (List Nat × List Nat) := (true, [([], []), ([], []), ([], []), ([], []), ([3], [3]), ([2, 4], [2, 4]), ([0, 1, 5, 5], [0, 1, 5]), ([6, 6, 0, 1, 2, 3, 4, 5, 6], [6])])
def spec_l91Expr.B5 : List Nat := [0, 0, 0, 0, 8, 28, 63, 127]
theorem spec_l91Expr.tab5 : rtab .any (opsOf Tryd.f44 5) = spec_l91Expr.T5 := by kernel_rfl
theorem spec_l91Expr.bits5 : waitsOk spec_l91Expr.T5.2 spec_l91Expr.B5 = true := by kernel_rfl
theorem spec_l91Expr.calls (k : Nat) : ∀ (g : Nat) (s0_0 : List Int) (s0_1 : Int) (a1 : Int) (r1 : Int) (r2 : Int) (r3 : List (S29)) (r4 : Int) (w0 w : World) (hI : IsS65 w0 w g s0_0 s0_1) (hB : Below w0.heap.size w0 w) (h : spec_l91Expr.f k s0_0 s0_1 a1 = some (r1, r2, r3, r4)),
  Calls Tryd.prog 44 #[.pointer (some ⟨g, 0, none⟩), .int .i64 a1] w fun e w' => ∃ v2_ : Value, e = .returned (.agg #[.int .i64 r1, .int .i64 r2, v2_]) ∧ Kd.N k29 29 w' w.heap.size (fun k_ => (w.heap.size ≤ k_)) v2_ r3 ∧ IsS65 w0 w' g s0_0 r4 ∧ Below w0.heap.size w0 w' ∧ KeepBut w w' g none := by
 induction k using Nat.strongRecOn with
 | _ k ih =>
 intro g s0_0 s0_1 a1 r1 r2 r3 r4 w0 w hI hB h
 cases k with
 | zero => exact absurd h (by simp [spec_l91Expr.f])
 | succ k =>
 simp only [spec_l91Expr.f] at h
 have hu29 := Tryd.underlying29
 have HI0 := am hI
 have HK := am (KeepBut.refl w g none)
 have HL := am hB.size
 clear hI
 have HW0 := am hB.size
 have HB := am hB
 clear hB
 have H : (if a1 < 2 then (spec_l91Expr.j0 k a1 true s0_0 s0_1) else ((spec_l6Rd_pick.f k s0_0 s0_1 3).bind fun bt34 => (spec_l91Expr.j0 k a1 (bt34.1 == 0) s0_0 bt34.2))) = some (r1, r2, r3, r4) := h
 clear h
 have HC3 := am H
 clear H
 go_enter Tryd.func44, Tryd.ntmps44
 go_upto_region 1 with (first | ((with_reducible refine gate_dst (N := 4) rfl ?_); refine box_event rfl (N := 4) rfl (cs := #[.int .i64 0, .int .i64 0, .slice none 0 0]) (t := 29) rn_ ?_; intro gb35 hg w4 hbox hb; replace HB := am (below_step ab30_ hb); have BK35 := am (hbox); have GW35 := am ((by rw [hg]; exact (keep_size (w := w) (g := g) (row := none) ab23_) : w.heap.size ≤ gb35)); have GE35 := am ((Nat.le_trans HW0.out (by rw [hg]; exact (keep_size (w := w) (g := g) (row := none) ab23_) : w.heap.size ≤ gb35) : w0.heap.size ≤ gb35)); replace HK := am (KeepBut.trans ab23_ (KeepBut.of_below hb g none) (.inl rfl)); have NB0_35 := am ((by rw [hg]; exact Nat.ne_of_lt (IsS65.lt (show IsS65 w0 _ g s0_0 s0_1 from ab21_)) : g ≠ gb35)); have NB35_0 := am ((by rw [hg]; exact Nat.ne_of_gt (IsS65.lt (show IsS65 w0 _ g s0_0 s0_1 from ab21_)) : gb35 ≠ g)); replace HI0 := am (IsS65.below ab21_ hb); clear hb hbox hg))
 (try simp only [Act.put, List.setIfInBounds_toArray, List.set_cons_zero, List.set_cons_succ])
 go_cut [13] (fun v13 wc => ∃ (kq : Nat) (x13_2 : Bool) (x36_2 : Int), v13 = .bool x13_2 ∧ Aside0 (spec_l91Expr.j0 kq a1 x13_2 s0_0 x36_2 = some (r1, r2, r3, r4)) ∧ Aside0 (kq ≤ k) ∧ Aside0 (wc.heap[gb35]? = some (.cells #[.int .i64 0, .int .i64 0, (.slice none 0 0)] 29 (0, 0))) ∧ Aside0 (IsS65 w0 wc g s0_0 x36_2) ∧ Aside0 (KeepBut w wc g none) ∧ Aside0 (Below w0.heap.size w0 wc))
 case first =>
  have H := HC3.out
  clear HC3
  by_cases c5 : a1 < 2
  ·rw [if_pos c5] at H
   have c5b0 : decide (a1 < 2) = true := decide_eq_true c5
   clear c5
   (first | rw [c5b0] | (simp only [i64_w, i32_w]; rw [c5b0]) | skip)
   have H' := am H
   clear H
   go_wp2
   go_meet
   case rel => exact ⟨_, (true), (s0_1), sd_, H', ⟨by first | omega | exact Nat.le_refl _⟩, ⟨by (with_reducible repeat (first | refine blk_drewN ?_ _ | refine blk_drew ?_ | refine blk_alloc ?_ _)); exact BK35.out⟩, ⟨ab26_⟩, ⟨ab19_⟩, ⟨ab33_⟩⟩
  rw [if_neg c5] at H
  have c5b0 : decide (a1 < 2) = false := decide_eq_false c5
  clear c5
  (first | rw [c5b0] | (simp only [i64_w, i32_w]; rw [c5b0]) | skip)
  obtain ⟨⟨t34, t37⟩, A6, H⟩ := bsa H
  (try dsimp only at H)
  have H' := am H
  clear H
  go_wp2_with (first | (go_at_call 45; (with_reducible refine (spec_l6Rd_pick.calls k g s0_0 s0_1 3 t34 t37 w0 _ ?side1 ?side2 A6.out).mono ?_); (case side1 => exact ab26_); (case side2 => exact ab33_); rintro e w7 ⟨rfl, hi, hb, hk⟩; replace BK35 := am (KeepBut.blk hk (g' := gb35) (o := .cells #[.int .i64 0, .int .i64 0, .slice none 0 0] 29 (0, 0)) (aG_ BK35.out) NB35_0.out (by simp)); replace HK := am (KeepBut.trans ab19_ hk (.inl rfl)); replace HB := am (hb); replace HI0 := am (hi); (try clear hb); (try clear hk); (try clear hi)))
  go_meet
  case rel => exact ⟨_, ((t34 == 0)), (t37), sd_, H', ⟨by first | omega | exact Nat.le_refl _⟩, ⟨by (with_reducible repeat (first | refine blk_drewN ?_ _ | refine blk_drew ?_ | refine blk_alloc ?_ _)); exact BK35.out⟩, ⟨ab26_⟩, ⟨ab19_⟩, ⟨ab33_⟩⟩
 case rest =>
  clear HC3
  obtain ⟨kq, x13_2, x36_2, rfl, HA, HJ2, BK35, HI0, HK, HB⟩ := hcut
  cases kq with
  | zero => exact absurd HA.out (by simp [spec_l91Expr.j0])
  | succ kj2 =>
   have H := HA.out
   clear HA
   simp only [spec_l91Expr.j0] at H
   by_cases c8 : x13_2 = true
   ·subst c8
    rw [if_pos rfl] at H
    obtain ⟨⟨t38, t39, t40, t41⟩, A9, H⟩ := bsa H
    (try dsimp only at H)
    simp only [Option.some.injEq, Prod.mk.injEq] at H
    obtain ⟨rfl, rfl, rfl, rfl⟩ := H
    go_wp2_with (first | ((with_reducible refine gate_callee (f := 46) rfl ?_); refine gl_ 15 Tryd.func46 #[.pointer (some ⟨g, 0, none⟩)] ?_; (with_reducible refine (spec_l91Leaf.calls kj2 g s0_0 x36_2 t38 t39 t40 t41 w0 _ ?side1 ?side2 A9.out).mono ?_); (case side1 => exact ab26_); (case side2 => exact ab33_); rintro e w10 ⟨v42, rfl, ho0, hi, hb, hk⟩; refine ⟨_, rfl, ?_⟩; have HO43 := am (Kd.N_lower (Kd.N_mono (ok' := fun k_ => (w.heap.size ≤ k_) ∧ k_ ≠ gb35 ∧ k_ ≠ g) (Kd.R_N (Kd.R_bound ho0)) (fun k_ hk_ => ⟨(Nat.le_trans (keep_size (w := w) (g := g) (row := none) ab19_) hk_.2.1), (frb_ BK35.out k_ hk_.2.1), (IsS65.fresh ab26_ k_ hk_.2.1)⟩)) (keep_size (w := w) (g := g) (row := none) ab19_)); replace BK35 := am (KeepBut.blk hk (g' := gb35) (o := .cells #[.int .i64 0, .int .i64 0, .slice none 0 0] 29 (0, 0)) (aG_ BK35.out) NB35_0.out (by simp)); replace HK := am (KeepBut.trans ab19_ hk (.inl rfl)); replace HB := am (hb); replace HI0 := am (hi); (try clear hb); (try clear hk); (try clear hi); (try clear ho0); have hnb11 := NB35_0.out; have hnc11 := NB0_35.out; obtain ⟨hcz12_0, hcz12_1, hcz12_2, hfz12_0, hfz12_1, hfz12_2⟩ := bcf3_ BK35.out; obtain ⟨Ao13, co13, eo13⟩ := Kd.N_slice HO43.out; subst eo13))
    refine bodyPost_ret (results_cell_row rfl _ _ gb35 29 #[.int .i64 t38, .int .i64 t39, .slice Ao13 t40.length co13] (0, 0) _ rfl (blk_put (blk_put (blk_put BK35.out 0 _ rfl) 1 _ rfl) 2 _ rfl) Tryd.underlying29 rfl (by kernel_rfl)) rfl ?_
    exact ⟨_, ab16_, aNw_ (Kd.N_mono (Kd.N_far (p := ⟨gb35, 2, none⟩) (Kd.N_far (p := ⟨gb35, 1, none⟩) (Kd.N_far (p := ⟨gb35, 0, none⟩) (Kd.N_mono HO43.out (fun k_ hk => (⟨hk, hk.2.1⟩ : _ ∧ k_ ≠ gb35))) (fun _ hk => hk.2) (.int .i64 t38)) (fun _ hk => hk.2) (.int .i64 t39)) (fun _ hk => hk.2) (.slice Ao13 t40.length co13)) (fun _ hk => hk.1.1)), ab26_, ab33_, ab19_⟩
   replace c8 := Bool.eq_false_iff.mpr c8
   subst c8
   rw [if_neg (show ¬ (false = true) by decide)] at H
   obtain ⟨⟨t49, t53⟩, A54, H⟩ := bsm H
   (try dsimp only at H)
   have A14 := am A54
   clear A54
   obtain ⟨⟨t50, t55, t56, t57⟩, A58, H⟩ := bsm H
   (try dsimp only at H)
   have A15 := am A58
   clear A58
   obtain ⟨⟨t51, t59, t61, t62⟩, A66, H⟩ := bsm H
   (try dsimp only at H)
   have A16 := am A66
   clear A66
   obtain ⟨⟨t52, t67, t68⟩, A69, H⟩ := bsm H
   (try dsimp only at H)
   have A17 := am A69
   clear A69
   simp only [Option.some.injEq, Prod.mk.injEq] at H
   obtain ⟨rfl, rfl, rfl, rfl⟩ := H
   try go_wp2_with (first | ((with_reducible refine gate_callee (f := 48) rfl ?_); refine gl_ 17 Tryd.func48 #[.pointer (some ⟨g, 0, none⟩)] ?_; (with_reducible refine (spec_l91Op.calls kj2 g s0_0 x36_2 t49 t53 w0 _ ?side1 ?side2 A14.out).mono ?_); (case side1 => exact ab26_); (case side2 => exact ab33_); rintro e w18 ⟨rfl, hi, hb, hk⟩; refine ⟨_, rfl, ?_⟩; replace BK35 := am (KeepBut.blk hk (g' := gb35) (o := .cells #[.int .i64 0, .int .i64 0, .slice none 0 0] 29 (0, 0)) (aG_ BK35.out) NB35_0.out (by simp)); replace HK := am (KeepBut.trans ab19_ hk (.inl rfl)); replace HB := am (hb); replace HI0 := am (hi); (try clear hb); (try clear hk); (try clear hi)) | ((with_reducible refine gate_callee (f := 44) rfl ?_); refine gl_ 21 Tryd.func44 #[.pointer (some ⟨g, 0, none⟩), .int .i64 (wrap64 (a1 - 1))] ?_; (with_reducible refine (ih kj2 (by have := HJ2.out; omega) g s0_0 t53 (wrap64 (a1 - 1)) t50 t55 t56 t57 w0 _ ?side1 ?side2 A15.out).mono ?_); (case side1 => exact ab26_); (case side2 => exact ab33_); rintro e w19 ⟨v70, rfl, ho0, hi, hb, hk⟩; refine ⟨_, rfl, ?_⟩; have HO71 := am (Kd.N_lower (Kd.N_mono (ok' := fun k_ => (w.heap.size ≤ k_) ∧ k_ ≠ gb35 ∧ k_ ≠ g) ho0 (fun k_ hk_ => ⟨(Nat.le_trans (keep_size (w := w) (g := g) (row := none) ab19_) hk_), (frb_ BK35.out k_ hk_), (IsS65.fresh ab26_ k_ hk_)⟩)) (keep_size (w := w) (g := g) (row := none) ab19_)); replace BK35 := am (KeepBut.blk hk (g' := gb35) (o := .cells #[.int .i64 0, .int .i64 0, .slice none 0 0] 29 (0, 0)) (aG_ BK35.out) NB35_0.out (by simp)); replace HK := am (KeepBut.trans ab19_ hk (.inl rfl)); replace HB := am (hb); replace HI0 := am (hi); (try clear hb); (try clear hk); (try clear hi); (try clear ho0)) | ((with_reducible refine gate_dst (N := 6) rfl ?_); refine box_event rfl (N := 6) rfl (cs := #[.int .i64 0, .int .i64 0, .slice none 0 0]) (t := 29) rn_ ?_; intro gb72 hg w20 hbox hb; replace HO71 := am (Kd.N_below (Kd.N_elderB (aN_ HO71.out) gb72 (Nat.le_of_eq hg.symm)) hb); replace HB := am (below_step ab33_ hb); have BK72 := am (hbox); have GW72 := am ((by rw [hg]; exact (keep_size (w := w) (g := g) (row := none) ab19_) : w.heap.size ≤ gb72)); have GE72 := am ((Nat.le_trans HW0.out (by rw [hg]; exact (keep_size (w := w) (g := g) (row := none) ab19_) : w.heap.size ≤ gb72) : w0.heap.size ≤ gb72)); replace HK := am (KeepBut.trans ab19_ (KeepBut.of_below hb g none) (.inl rfl)); have NB35_72 := am ((by rw [hg]; exact Nat.ne_of_lt (blt_ BK35.out) : gb35 ≠ gb72)); have NB72_35 := am ((by rw [hg]; exact Nat.ne_of_gt (blt_ BK35.out) : gb72 ≠ gb35)); replace BK35 := am (bbl_ BK35.out hb); have NB0_72 := am ((by rw [hg]; exact Nat.ne_of_lt (IsS65.lt (show IsS65 w0 _ g s0_0 t57 from ab26_)) : g ≠ gb72)); have NB72_0 := am ((by rw [hg]; exact Nat.ne_of_gt (IsS65.lt (show IsS65 w0 _ g s0_0 t57 from ab26_)) : gb72 ≠ g)); replace HI0 := am (IsS65.below ab26_ hb); clear hb hbox hg; have hnb21 := NB72_35.out; have hnc21 := NB35_72.out; have hnb22 := NB72_0.out; have hnc22 := NB0_72.out; obtain ⟨hcz23_0, hcz23_1, hcz23_2, hfz23_0, hfz23_1, hfz23_2⟩ := bcf3_ BK72.out; obtain ⟨Ao24, co24, eo24⟩ := Kd.N_slice HO71.out; subst eo24))
   have n0_ : Aside0 (Kd.N k29 29 (((w20.setCell ⟨gb72, 0, none⟩ (.int .i64 t50)).setCell ⟨gb72, 1, none⟩ (.int .i64 t55)).setCell ⟨gb72, 2, none⟩ (.slice Ao24 t56.length co24)) w.heap.size (fun k_ => (w.heap.size ≤ k_) ∧ k_ ≠ gb35 ∧ k_ ≠ g ∧ k_ ≠ gb72) (.slice Ao24 t56.length co24) t56) := ⟨aNw_ (Kd.N_mono (Kd.N_far (p := ⟨gb72, 2, none⟩) (Kd.N_far (p := ⟨gb72, 1, none⟩) (Kd.N_far (p := ⟨gb72, 0, none⟩) (Kd.N_mono HO71.out (fun k_ hk => (⟨hk, hk.2⟩ : _ ∧ k_ ≠ gb72))) (fun _ hk => hk.2) (.int .i64 t50)) (fun _ hk => hk.2) (.int .i64 t55)) (fun _ hk => hk.2) (.slice Ao24 t56.length co24)) (fun _ hk => ⟨hk.1.1.1, ⟨hk.1.1.2.1, ⟨hk.1.1.2.2, hk.1.2⟩⟩⟩))⟩
   have n1_ : Aside0 ((((w20.setCell ⟨gb72, 0, none⟩ (.int .i64 t50)).setCell ⟨gb72, 1, none⟩ (.int .i64 t55)).setCell ⟨gb72, 2, none⟩ (.slice Ao24 t56.length co24)).heap[gb35]? = some (.cells #[.int .i64 0, .int .i64 0, .slice none 0 0] 29 (0, 0))) := ⟨(blk_far (blk_far (blk_far BK35.out NB35_72.out _) NB35_72.out _) NB35_72.out _)⟩
   have n2_ : Aside0 ((((w20.setCell ⟨gb72, 0, none⟩ (.int .i64 t50)).setCell ⟨gb72, 1, none⟩ (.int .i64 t55)).setCell ⟨gb72, 2, none⟩ (.slice Ao24 t56.length co24)).heap[gb72]? = some (.cells #[.int .i64 t50, .int .i64 t55, .slice Ao24 t56.length co24] 29 (0, 0))) := ⟨(blk_put (blk_put (blk_put BK72.out 0 _ rfl) 1 _ rfl) 2 _ rfl)⟩
   have n3_ : Aside0 (IsS65 w0 (((w20.setCell ⟨gb72, 0, none⟩ (.int .i64 t50)).setCell ⟨gb72, 1, none⟩ (.int .i64 t55)).setCell ⟨gb72, 2, none⟩ (.slice Ao24 t56.length co24)) g s0_0 t57) := ⟨ab35_⟩
   have n4_ : Aside0 (KeepBut w (((w20.setCell ⟨gb72, 0, none⟩ (.int .i64 t50)).setCell ⟨gb72, 1, none⟩ (.int .i64 t55)).setCell ⟨gb72, 2, none⟩ (.slice Ao24 t56.length co24)) g none) := ⟨ab32_⟩
   have n5_ : Aside0 (Below w0.heap.size w0 (((w20.setCell ⟨gb72, 0, none⟩ (.int .i64 t50)).setCell ⟨gb72, 1, none⟩ (.int .i64 t55)).setCell ⟨gb72, 2, none⟩ (.slice Ao24 t56.length co24))) := ⟨ab41_⟩
   (try clear HO71)
   (try clear BK35)
   (try clear BK72)
   (try clear HI0)
   (try clear HK)
   (try clear HB)
   generalize (((w20.setCell ⟨gb72, 0, none⟩ (.int .i64 t50)).setCell ⟨gb72, 1, none⟩ (.int .i64 t55)).setCell ⟨gb72, 2, none⟩ (.slice Ao24 t56.length co24)) = w25 at n0_ n1_ n2_ n3_ n4_ n5_ ⊢
   have HO71 := n0_
   have BK35 := n1_
   have BK72 := n2_
   have HI0 := n3_
   have HK := n4_
   have HB := n5_
   clear n0_ n1_ n2_ n3_ n4_ n5_
   replace HO71 := am (Kd.N_drew HO71.out)
   replace BK35 := am (blk_drew BK35.out)
   replace BK72 := am (blk_drew BK72.out)
   replace HI0 := am (IsS65.drew HI0.out)
   replace HK := am (keep_drew HK.out)
   replace HB := am (below_drew1 HB.out)
   refine start_ (n := 8) (S := fun w' => w'.cell? ⟨gb72, 0, none⟩ = some (.int .i64 t50) ∧ w'.cell? ⟨gb72, 1, none⟩ = some (.int .i64 t55) ∧ w'.cell? ⟨gb72, 2, none⟩ = some (.slice Ao24 t56.length co24)) (ds := []) (bz 8 0) (by kernel_rfl) rfl rfl ⟨(blk_cell BK72.out 0).trans rfl, (blk_cell BK72.out 1).trans rfl, (blk_cell BK72.out 2).trans rfl⟩ (fun hHeld => ?_); refine with_tabW spec_l91Expr.tab5 spec_l91Expr.bits5 (fun HT_ HW_ => ?_)
   generalize w25.drew = w26 at HO71 BK35 BK72 HI0 HK HB hHeld ⊢
   refine pr_ 0 22 (bz 8 1) HT_ ?_
   refine pr_ 2 24 (bz 8 5) HT_ ?_
   refine pr_ 3 25 (bz 8 13) HT_ ?_
   refine pr_ 4 26 (bz 8 29) HT_ ?_
   refine tk3_ 1 23 (bz 8 31) HT_ HW_ hHeld ?_
   refine one_ (i := 5) (N := some 27) (bz 8 63) rfl rfl (one_of HT_.out (by kernel_rfl)) (by decide) (fun K hK => ?_)
   refine goes_ Tryd.func44 (by kernel_rfl) rfl #[.pointer (some ⟨g, 0, none⟩), .int .i64 (wrap64 (a1 - 1))] (by rfl) rfl rfl ab1_ ?_
   with_reducible refine (ih kj2 (by have := HJ2.out; omega) g s0_0 t57 (wrap64 (a1 - 1)) t51 t59 t61 t62 w0 _ ?side1 ?side2 A16.out).mono ?_
   (case side1 => exact ab35_)
   (case side2 => exact ab41_)
   rintro e w27 ⟨v73, rfl, ho0, hi, hb, hk⟩
   refine ⟨_, rfl, ?_⟩
   have HO74 := am (Kd.N_lower (Kd.N_mono (ok' := fun k_ => (w.heap.size ≤ k_) ∧ some k_ ≠ (.slice Ao24 t56.length co24 : Value).ownBlock ∧ k_ ≠ gb35 ∧ k_ ≠ gb72 ∧ k_ ≠ g) ho0 (fun k_ hk_ => ⟨(Nat.le_trans (keep_size (w := w) (g := g) (row := none) ab32_) hk_), (Kd.fresh' (Kd.N_lt (aN_ HO71.out)) k_ hk_), (frb_ BK35.out k_ hk_), (frb_ BK72.out k_ hk_), (IsS65.fresh ab35_ k_ hk_)⟩)) (keep_size (w := w) (g := g) (row := none) ab32_))
   replace BK35 := am (KeepBut.blk hk (g' := gb35) (o := .cells #[.int .i64 0, .int .i64 0, .slice none 0 0] 29 (0, 0)) (aG_ BK35.out) NB35_0.out (by simp))
   replace HO71 := am (Kd.N_mono (Kd.N_told (Kd.N_oldK (Kd.N_mono (ok := fun k_ => (((w.heap.size ≤ k_)) ∧ (k_ ≠ gb35 ∧ (k_ ≠ g ∧ k_ ≠ gb72)))) (aN_ HO71.out) (fun k_ hk_ => (⟨hk_, hk_.2.2.1⟩ : _ ∧ k_ ≠ g))) hk) (by first | exact Kd.N_base ho0 | exact Kd.N_base (Kd.R_N ho0))) (fun _ h_ => h_.1))
   replace BK72 := am (KeepBut.blk hk (g' := gb72) (o := .cells #[.int .i64 t50, .int .i64 t55, .slice Ao24 t56.length co24] 29 (0, 0)) (aG_ BK72.out) NB72_0.out (by simp))
   replace HK := am (KeepBut.trans ab32_ hk (.inl rfl))
   replace HB := am (hb)
   replace HI0 := am (hi)
   (try clear hb)
   (try clear hb2)
   (try clear hk)
   (try clear hi)
   (try clear ho0)
   obtain ⟨Ao28, co28, eo28⟩ := Kd.N_slice HO74.out
   (first | subst eo28 | (injection eo28 with f1_ f2_ f3_; have f4_ := f1_.symm; have f5_ := f3_.symm; clear f1_ f2_ f3_; subst f4_; subst f5_))
   refine hK.out _ _ ⟨(blk_cell BK72.out 0).trans rfl, (blk_cell BK72.out 1).trans rfl, (blk_cell BK72.out 2).trans rfl⟩ (fun hHeld => ?_)
   clear hK K
   refine norm_ (a' := ?_) ?_ ?_
   rotate_left
   ·show Act.put _ (some 27) _ = _
    simp only [Act.put, List.setIfInBounds_toArray, List.set_cons_zero, List.set_cons_succ, i64_w, i32_w]
    rfl
   refine one_ (i := 6) (N := some 28) (bz 8 127) rfl rfl (one_of HT_.out (by kernel_rfl)) (by decide) (fun K hK => ?_)
   refine goes_ Tryd.func47 (by kernel_rfl) rfl #[.int .i64 t49, .agg #[.int .i64 t50, .int .i64 t55, .slice Ao24 t56.length co24], .agg #[.int .i64 t51, .int .i64 t59, .slice Ao28 t61.length co28]] (by rfl) rfl rfl ab1_ ?_
   with_reducible refine (spec_l4Both.calls t49 t50 t55 (fun k_ => (((w.heap.size ≤ k_) ∧ (k_ ≠ gb35 ∧ (k_ ≠ g ∧ k_ ≠ gb72))) ∧ some k_ ≠ (.slice Ao28 t61.length co28 : Value).ownBlock)) _ _ t56 t51 t59 (fun k_ => ((w.heap.size ≤ k_) ∧ (some k_ ≠ (.slice Ao24 t56.length co24 : Value).ownBlock ∧ (k_ ≠ gb35 ∧ (k_ ≠ gb72 ∧ k_ ≠ g))))) _ _ t61 t52 t67 t68 _ ?side1 ?side2 A17.out).mono ?_
   (case side1 => exact Kd.N_V (HO71.out))
   (case side2 => exact Kd.N_V (HO74.out))
   rintro e w29 ⟨v75, rfl, ho0, hb⟩
   refine ⟨_, rfl, ?_⟩
   replace HO71 := am (Kd.N_elder' (aN_ HO71.out) (by first | exact Kd.N_base ho0 | exact Kd.N_base (Kd.R_N ho0)) hb)
   replace HO74 := am (Kd.N_elder' (aN_ HO74.out) (by first | exact Kd.N_base ho0 | exact Kd.N_base (Kd.R_N ho0)) hb)
   have HO76 := am (Kd.N_lower (Kd.N_mono (ok' := fun k_ => (w.heap.size ≤ k_) ∧ k_ ≠ gb35 ∧ k_ ≠ gb72 ∧ k_ ≠ g) ho0 (fun k_ hk_ => ⟨Or.elim hk_ (fun hs_ => Or.elim hs_ (fun hs_ => hs_.1.1) (fun hs_ => hs_.1)) (fun hn_ => (Nat.le_trans (keep_size (w := w) (g := g) (row := none) ab32_) hn_)), Or.elim hk_ (fun hs_ => Or.elim hs_ (fun hs_ => hs_.1.2.1) (fun hs_ => hs_.2.2.1)) (fun hn_ => (frb_ BK35.out k_ hn_)), Or.elim hk_ (fun hs_ => Or.elim hs_ (fun hs_ => hs_.1.2.2.2) (fun hs_ => hs_.2.2.2.1)) (fun hn_ => (frb_ BK72.out k_ hn_)), Or.elim hk_ (fun hs_ => Or.elim hs_ (fun hs_ => hs_.1.2.2.1) (fun hs_ => hs_.2.2.2.2)) (fun hn_ => (IsS65.fresh ab35_ k_ hn_))⟩)) (keep_size (w := w) (g := g) (row := none) ab32_))
   replace BK35 := am (bbl_ BK35.out hb)
   replace BK72 := am (bbl_ BK72.out hb)
   replace HK := am (KeepBut.trans ab32_ (KeepBut.of_below hb g none) (.inl rfl))
   replace HB := am (below_step ab41_ hb)
   replace HI0 := am (IsS65.below ab35_ hb)
   (try clear hb)
   (try clear hb2)
   (try clear hk)
   (try clear hi)
   (try clear ho0)
   obtain ⟨Ao32, co32, eo32⟩ := Kd.N_slice HO76.out
   (first | subst eo32 | (injection eo32 with f1_ f2_ f3_; have f4_ := f1_.symm; have f5_ := f3_.symm; clear f1_ f2_ f3_; subst f4_; subst f5_))
   refine hK.out _ _ ⟨(blk_cell BK72.out 0).trans rfl, (blk_cell BK72.out 1).trans rfl, (blk_cell BK72.out 2).trans rfl⟩ (fun hHeld => ?_)
   clear hK K
   refine norm_ (a' := ?_) ?_ ?_
   rotate_left
   ·show Act.put _ (some 28) _ = _
    simp only [Act.put, List.setIfInBounds_toArray, List.set_cons_zero, List.set_cons_succ, i64_w, i32_w]
    rfl
   refine one_ (i := 7) (N := none) (bz 8 255) rfl rfl (one_of HT_.out (by kernel_rfl)) (by decide) (fun K hK => ?_)
   have hs30 : w29.cell? ⟨gb35, 0, none⟩ = some (.int .i64 0) := (blk_cell BK35.out 0).trans rfl
   have hfs30 := blk_frozen BK35.out 0
   have hns30_1 := NB72_35.out
   have hms30_1 := NB35_72.out
   have hs31 : w29.cell? ⟨gb35, 1, none⟩ = some (.int .i64 0) := (blk_cell BK35.out 1).trans rfl
   have hfs31 := blk_frozen BK35.out 1
   have hns31_1 := NB72_35.out
   have hms31_1 := NB35_72.out
   have hs33 : w29.cell? ⟨gb35, 2, none⟩ = some (.slice none 0 0) := (blk_cell BK35.out 2).trans rfl
   have hfs33 := blk_frozen BK35.out 2
   have hns33_1 := NB72_35.out
   have hms33_1 := NB35_72.out
   refine skip_ (w1 := ?_) (by rfl) rfl ?_ ?_
   rotate_left
   ·go_simp
    rfl
   refine hK.out _ _ ⟨((cell_far (p := ⟨gb35, _, none⟩) NB72_35.out _).trans (((cell_far (p := ⟨gb35, _, none⟩) NB72_35.out _).trans (((cell_far (p := ⟨gb35, _, none⟩) NB72_35.out _).trans (hHeld.1)))))), ((cell_far (p := ⟨gb35, _, none⟩) NB72_35.out _).trans (((cell_far (p := ⟨gb35, _, none⟩) NB72_35.out _).trans (((cell_far (p := ⟨gb35, _, none⟩) NB72_35.out _).trans (hHeld.2.1)))))), ((cell_far (p := ⟨gb35, _, none⟩) NB72_35.out _).trans (((cell_far (p := ⟨gb35, _, none⟩) NB72_35.out _).trans (((cell_far (p := ⟨gb35, _, none⟩) NB72_35.out _).trans (hHeld.2.2))))))⟩ (fun hHeld => ?_)
   clear hK K
   refine done_ (done_of HT_.out (by kernel_rfl)) ?_
   try go_wp2
   refine bodyPost_ret (results_cell_row rfl _ _ gb35 29 #[.int .i64 t52, .int .i64 t67, .slice Ao32 t68.length co32] (0, 0) _ rfl (blk_put (blk_put (blk_put BK35.out 0 _ rfl) 1 _ rfl) 2 _ rfl) Tryd.underlying29 rfl (by kernel_rfl)) rfl ?_
   exact ⟨_, ab16_, aNw_ (Kd.N_mono (Kd.N_far (p := ⟨gb35, 2, none⟩) (Kd.N_far (p := ⟨gb35, 1, none⟩) (Kd.N_far (p := ⟨gb35, 0, none⟩) (Kd.N_mono HO76.out (fun k_ hk => (⟨hk, hk.2.1⟩ : _ ∧ k_ ≠ gb35))) (fun _ hk => hk.2) (.int .i64 t52)) (fun _ hk => hk.2) (.int .i64 t67)) (fun _ hk => hk.2) (.slice Ao32 t68.length co32)) (fun _ hk => hk.1.1)), ab35_, ab41_, ab32_⟩
theorem spec_l91Spoilt.mono : ∀ a0 a1 k, LeO (spec_l91Spoilt.f k a0 a1) (spec_l91Spoilt.f (k + 1) a0 a1) := by
 intro a0 a1 k
 unfold spec_l91Spoilt.f
 have m0 := @spec_l6Rd_pick.mono
 have m1 := @spec_l91Expr.mono
 have m2 := @spec_l91Leaf.mono
 have m3 := @spec_l91Op.mono
 exact mo_
def spec_l91Spoilt.T8 : Bool × List (List Nat × List Nat) := (true, [([], []), ([0], [0]), ([], []), ([2], [2]), ([3], [3]), ([1, 4, 3], [1, 4]), ([0, 1, 2, 3, 4, 5], []), ([6, 5, 5, 0, 1, 2, 3, 4, 5], [5, 6])])
def spec_l91Spoilt.B8 : List Nat := [0, 1, 0, 4, 12, 31, 63, 127]
theorem spec_l91Spoilt.tab8 : rtab .any (opsOf Tryd.f24 8) = spec_l91Spoilt.T8 := by kernel_rfl
theorem spec_l91Spoilt.bits8 : waitsOk spec_l91Spoilt.T8.2 spec_l91Spoilt.B8 = true := by kernel_rfl
def spec_l91Spoilt.T10 : Bool × List (List Nat × List Nat) := (true, [([], []), ([], []), ([1], [1]), ([0, 2, 2], [0, 2]), ([], []), ([4, 3], [4]), ([3, 5, 5], [3, 5]), ([6, 6, 0, 1, 2, 3, 4, 5, 6], [6])])
def spec_l91Spoilt.B10 : List Nat := [0, 0, 2, 7, 0, 31, 63, 127]
theorem spec_l91Spoilt.tab10 : rtab .any (opsOf Tryd.f24 10) = spec_l91Spoilt.T10 := by kernel_rfl
theorem spec_l91Spoilt.bits10 : waitsOk spec_l91Spoilt.T10.2 spec_l91Spoilt.B10 = true := by kernel_rfl
theorem spec_l91Spoilt.calls (k : Nat) (g : Nat) (s0_0 : List Int) (s0_1 : Int) (r1 : Int) (r2 : Int) (r3 : List (S29)) (r4 : Int) (w0 w : World) (hI : IsS65 w0 w g s0_0 s0_1) (hB : Below w0.heap.size w0 w) (h : spec_l91Spoilt.f k s0_0 s0_1 = some (r1, r2, r3, r4)) :
  Calls Tryd.prog 24 #[.pointer (some ⟨g, 0, none⟩)] w fun e w' => ∃ v2_ : Value, e = .returned (.agg #[.int .i64 r1, .int .i64 r2, v2_]) ∧ Kd.N k29 29 w' w.heap.size (fun k_ => (w.heap.size ≤ k_)) v2_ r3 ∧ IsS65 w0 w' g s0_0 r4 ∧ Below w0.heap.size w0 w' ∧ KeepBut w w' g none := by
 have hu29 := Tryd.underlying29
 have HI0 := am hI
 have HK := am (KeepBut.refl w g none)
 have HL := am hB.size
 clear hI
 have HW0 := am hB.size
 have HB := am hB
 clear hB
 have H : ((spec_l6Rd_pick.f k s0_0 s0_1 4).bind fun bt36 => ((spec_l91Expr.f k s0_0 bt36.2 (wrap64 (2 + bt36.1))).bind fun bt37 => ((spec_l6Rd_pick.f k s0_0 bt37.2.2.2 40).bind fun bt53 => (if bt53.1 = 0 then ((some (([(-1), 100000] : List Int) : List Int)).bind fun y54 => ((spec_l6Rd_pick.f k s0_0 bt53.2 2).bind fun bt55 => (if 0 ≤ bt55.1 then (if bt55.1 < (y54.length : Int) then (some (bt37.1, rd y54 bt55.1, bt37.2.2.1, bt55.2)) else (none)) else (none)))) else (if bt53.1 = 1 then ((some (([(-1), 14] : List Int) : List Int)).bind fun y56 => ((spec_l6Rd_pick.f k s0_0 bt53.2 2).bind fun bt71 => (if 0 ≤ bt71.1 then (if bt71.1 < (y56.length : Int) then (some (rd y56 bt71.1, bt37.2.1, bt37.2.2.1, bt71.2)) else (none)) else (none)))) else (if bt53.1 = 2 then ((spec_l91Leaf.f k s0_0 bt53.2).bind fun bt72 => (if bt37.2.2.1.length < 3518437208883 then (some (bt37.1, bt37.2.1, (bt37.2.2.1 ++ [(⟨bt72.1, bt72.2.1, bt72.2.2.1⟩ : S29)]), bt72.2.2.2)) else (none))) else (if bt53.1 = 3 then ((spec_l91Leaf.f k s0_0 bt53.2).bind fun bt73 => ((spec_l4Both.f 8 bt37.1 bt37.2.1 bt37.2.2.1 bt73.1 bt73.2.1 bt73.2.2.1).bind fun bt74 => ((spec_l91Expr.f k s0_0 bt73.2.2.2 5).bind fun bt75 => ((spec_l4Both.f 8 bt74.1 bt74.2.1 bt74.2.2 bt75.1 bt75.2.1 bt75.2.2.1).bind fun bt76 => (some (bt76.1, bt76.2.1, bt76.2.2, bt75.2.2.2)))))) else (if bt53.1 = 4 then ((spec_l91Op.f k s0_0 bt53.2).bind fun bt77 => ((spec_l91Expr.f k s0_0 bt77.2 4).bind fun bt78 => ((spec_l4Leaf.f 13 4).bind fun bt79 => ((spec_l4Both.f bt77.1 bt78.1 bt78.2.1 bt78.2.2.1 bt79.1 bt79.2.1 bt79.2.2).bind fun bt97 => (some (bt97.1, bt97.2.1, bt97.2.2, bt78.2.2.2)))))) else (some (bt37.1, bt37.2.1, bt37.2.2.1, bt53.2)))))))))) = some (r1, r2, r3, r4) := h
 clear h
 obtain ⟨⟨t36, t98⟩, A2, H⟩ := bsa H
 (try dsimp only at H)
 obtain ⟨⟨t37, t99, t100, t101⟩, A3, H⟩ := bsa H
 (try dsimp only at H)
 obtain ⟨⟨t53, t102⟩, A4, H⟩ := bsa H
 (try dsimp only at H)
 have HH_ := am H
 clear H
 go_enter Tryd.func24, Tryd.ntmps24
 go_upto_region 3 with (first | ((with_reducible refine gate_dst (N := 2) rfl ?_); refine box_event rfl (N := 2) rfl (cs := #[.int .i64 0, .int .i64 0, .slice none 0 0]) (t := 29) rn_ ?_; intro gb103 hg w9 hbox hb; replace HB := am (below_step ab30_ hb); have BK103 := am (hbox); have GW103 := am ((by rw [hg]; exact (keep_size (w := w) (g := g) (row := none) ab23_) : w.heap.size ≤ gb103)); have GE103 := am ((Nat.le_trans HW0.out (by rw [hg]; exact (keep_size (w := w) (g := g) (row := none) ab23_) : w.heap.size ≤ gb103) : w0.heap.size ≤ gb103)); replace HK := am (KeepBut.trans ab23_ (KeepBut.of_below hb g none) (.inl rfl)); have NB0_103 := am ((by rw [hg]; exact Nat.ne_of_lt (IsS65.lt (show IsS65 w0 _ g s0_0 s0_1 from ab21_)) : g ≠ gb103)); have NB103_0 := am ((by rw [hg]; exact Nat.ne_of_gt (IsS65.lt (show IsS65 w0 _ g s0_0 s0_1 from ab21_)) : gb103 ≠ g)); replace HI0 := am (IsS65.below ab21_ hb); clear hb hbox hg) | ((with_reducible refine gate_callee (f := 45) rfl ?_); refine gl_ 6 Tryd.func45 #[.pointer (some ⟨g, 0, none⟩), .int .i64 4] ?_; (with_reducible refine (spec_l6Rd_pick.calls k g s0_0 s0_1 4 t36 t98 w0 _ ?side1 ?side2 A2.out).mono ?_); (case side1 => exact ab39_); (case side2 => exact ab48_); rintro e w10 ⟨rfl, hi, hb, hk⟩; refine ⟨_, rfl, ?_⟩; replace BK103 := am (KeepBut.blk hk (g' := gb103) (o := .cells #[.int .i64 0, .int .i64 0, .slice none 0 0] 29 (0, 0)) (aG_ BK103.out) NB103_0.out (by simp)); replace HK := am (KeepBut.trans ab38_ hk (.inl rfl)); replace HB := am (hb); replace HI0 := am (hi); (try clear hb); (try clear hk); (try clear hi)) | ((with_reducible refine gate_callee (f := 44) rfl ?_); refine gl_ 8 Tryd.func44 #[.pointer (some ⟨g, 0, none⟩), .int .i64 (wrap64 (2 + t36))] ?_; (with_reducible refine (spec_l91Expr.calls k g s0_0 t98 (wrap64 (2 + t36)) t37 t99 t100 t101 w0 _ ?side1 ?side2 A3.out).mono ?_); (case side1 => exact ab39_); (case side2 => exact ab48_); rintro e w11 ⟨v104, rfl, ho0, hi, hb, hk⟩; refine ⟨_, rfl, ?_⟩; have HO105 := am (Kd.N_lower (Kd.N_mono (ok' := fun k_ => (w.heap.size ≤ k_) ∧ k_ ≠ gb103 ∧ k_ ≠ g) ho0 (fun k_ hk_ => ⟨(Nat.le_trans (keep_size (w := w) (g := g) (row := none) ab38_) hk_), (frb_ BK103.out k_ hk_), (IsS65.fresh ab39_ k_ hk_)⟩)) (keep_size (w := w) (g := g) (row := none) ab38_)); replace BK103 := am (KeepBut.blk hk (g' := gb103) (o := .cells #[.int .i64 0, .int .i64 0, .slice none 0 0] 29 (0, 0)) (aG_ BK103.out) NB103_0.out (by simp)); replace HK := am (KeepBut.trans ab38_ hk (.inl rfl)); replace HB := am (hb); replace HI0 := am (hi); (try clear hb); (try clear hk); (try clear hi); (try clear ho0)) | ((with_reducible refine gate_dst (N := 3) rfl ?_); refine box_event rfl (N := 3) rfl (cs := #[.int .i64 0, .int .i64 0, .slice none 0 0]) (t := 29) rn_ ?_; intro gb115 hg w12 hbox hb; replace HO105 := am (Kd.N_below (Kd.N_elderB (aN_ HO105.out) gb115 (Nat.le_of_eq hg.symm)) hb); replace HB := am (below_step ab48_ hb); have BK115 := am (hbox); have GW115 := am ((by rw [hg]; exact (keep_size (w := w) (g := g) (row := none) ab38_) : w.heap.size ≤ gb115)); have GE115 := am ((Nat.le_trans HW0.out (by rw [hg]; exact (keep_size (w := w) (g := g) (row := none) ab38_) : w.heap.size ≤ gb115) : w0.heap.size ≤ gb115)); replace HK := am (KeepBut.trans ab38_ (KeepBut.of_below hb g none) (.inl rfl)); have NB103_115 := am ((by rw [hg]; exact Nat.ne_of_lt (blt_ BK103.out) : gb103 ≠ gb115)); have NB115_103 := am ((by rw [hg]; exact Nat.ne_of_gt (blt_ BK103.out) : gb115 ≠ gb103)); replace BK103 := am (bbl_ BK103.out hb); have NB0_115 := am ((by rw [hg]; exact Nat.ne_of_lt (IsS65.lt (show IsS65 w0 _ g s0_0 t101 from ab39_)) : g ≠ gb115)); have NB115_0 := am ((by rw [hg]; exact Nat.ne_of_gt (IsS65.lt (show IsS65 w0 _ g s0_0 t101 from ab39_)) : gb115 ≠ g)); replace HI0 := am (IsS65.below ab39_ hb); clear hb hbox hg; have hnb13 := NB115_103.out; have hnc13 := NB103_115.out; have hnb14 := NB115_0.out; have hnc14 := NB0_115.out; obtain ⟨hcz15_0, hcz15_1, hcz15_2, hfz15_0, hfz15_1, hfz15_2⟩ := bcf3_ BK115.out; obtain ⟨Ao16, co16, eo16⟩ := Kd.N_slice HO105.out; subst eo16) | ((with_reducible refine gate_callee (f := 45) rfl ?_); refine gl_ 10 Tryd.func45 #[.pointer (some ⟨g, 0, none⟩), .int .i64 40] ?_; (with_reducible refine (spec_l6Rd_pick.calls k g s0_0 t101 40 t53 t102 w0 _ ?side1 ?side2 A4.out).mono ?_); (case side1 => exact ab4_); (case side2 => exact ab5_); rintro e w17 ⟨rfl, hi, hb, hk⟩; refine ⟨_, rfl, ?_⟩; replace BK103 := am (KeepBut.blk hk (g' := gb103) (o := .cells #[.int .i64 0, .int .i64 0, .slice none 0 0] 29 (0, 0)) (blk_far (blk_far (blk_far BK103.out NB103_115.out _) NB103_115.out _) NB103_115.out _) NB103_0.out (by simp)); replace HO105 := am (Kd.N_mono (Kd.N_keep (Kd.N_mono (ok := fun k_ => ((((w.heap.size ≤ k_)) ∧ (k_ ≠ gb103 ∧ k_ ≠ g)) ∧ k_ ≠ gb115)) (aNw_ ((Kd.N_mono (Kd.N_far (p := ⟨gb115, 2, none⟩) (Kd.N_far (p := ⟨gb115, 1, none⟩) (Kd.N_far (p := ⟨gb115, 0, none⟩) (Kd.N_mono HO105.out (fun k_ hk => (⟨hk, hk.2⟩ : _ ∧ k_ ≠ gb115))) (fun _ hk => hk.2) (.int .i64 t37)) (fun _ hk => hk.2) (.int .i64 t99)) (fun _ hk => hk.2) (.slice Ao16 t100.length co16)) (fun _ h_ => h_.1)))) (fun k_ hk_ => (⟨hk_, hk_.1.2.2⟩ : _ ∧ k_ ≠ g))) hk (fun _ h => h.2)) (fun _ h => h.1)); replace BK115 := am (KeepBut.blk hk (g' := gb115) (o := .cells #[.int .i64 t37, .int .i64 t99, .slice Ao16 t100.length co16] 29 (0, 0)) (blk_put (blk_put (blk_put BK115.out 0 _ rfl) 1 _ rfl) 2 _ rfl) NB115_0.out (by simp)); replace HK := am (KeepBut.trans ab3_ hk (.inl rfl)); replace HB := am (hb); replace HI0 := am (hi); (try clear hb); (try clear hk); (try clear hi)))
 have H := HH_.out
 clear HH_
 by_cases c5 : t53 = 0
 ·rw [if_pos c5] at H
  have c5b0 : (t53 == 0) = true := beq_iff_eq.mpr c5
  have c5b1 : (t53 != 0) = false := bne_eq_false_iff_eq.mpr c5
  clear c5
  obtain ⟨y54, hy_⟩ : ∃ y_ : List Int, y_ = (([(-1), 100000] : List Int)) := ⟨_, rfl⟩
  replace H : ((spec_l6Rd_pick.f k s0_0 t102 2).bind fun bt55 => (if 0 ≤ bt55.1 then (if bt55.1 < (y54.length : Int) then (some (t37, rd y54 bt55.1, t100, bt55.2)) else (none)) else (none))) = some (r1, r2, r3, r4) := rx_
  have Ny54 := am hy_
  clear hy_
  obtain ⟨⟨t55, t116⟩, A6, H⟩ := bsa H
  (try dsimp only at H)
  by_cases c7 : 0 ≤ t55
  ·rw [if_pos c7] at H
   have c7b0 : decide (0 ≤ t55) = true := decide_eq_true c7
   clear c7
   by_cases c8 : t55 < (y54.length : Int)
   ·rw [if_pos c8] at H
    have c8b0 : decide (t55 < (y54.length : Int)) = true := decide_eq_true c8
    clear c8
    simp only [Option.some.injEq, Prod.mk.injEq] at H
    obtain ⟨rfl, rfl, rfl, rfl⟩ := H
    go_wp2_with (first | ((with_reducible refine gate_dst (N := 13) rfl ?_); refine Kd.R_lit (Kd.int .i64) _ 3 rfl (N := 13) rfl (xs := ([(-1), 100000] : List Int)) (inner := [.int .i64 (-1), .int .i64 100000]) (ok := fun _ => True) (okp := fun _ => True) rn_ ?hp (fun _ hk => hk) trivial (Below.refl _ _) (Nat.le_refl _) (by simp) ?_; (case hp => exact (Reps.one (show Kd.M (Kd.int .i64) _ _ _ (-1) [.int .i64 (-1)] from rfl) (Reps.one (show Kd.M (Kd.int .i64) _ _ _ 100000 [.int .i64 100000] from rfl) (Reps.none _ _)))); intro v117 w18 ho19 hb hg_ hnew_; clear hg_ hnew_; (first | rw [← Ny54.out] at ho19 | (simp only [Int.reduceToNat] at ho19; rw [← Ny54.out] at ho19)); replace HO105 := am (Kd.N_elder' (aN_ HO105.out) (Kd.R_base ho19) hb); have HO118 := am (Kd.R_lower (Kd.R_newM (M := fun k_ => (w.heap.size ≤ k_)) ho19 (keep_size (w := w) (g := g) (row := none) ab3_) (fun k_ h_ => h_)) (keep_size (w := w) (g := g) (row := none) ab3_)); replace BK103 := am (bbl_ BK103.out hb); replace BK115 := am (bbl_ BK115.out hb); replace HK := am (KeepBut.trans ab3_ (KeepBut.of_below hb g none) (.inl rfl)); replace HB := am (below_step ab5_ hb); replace HI0 := am (IsS65.below ab4_ hb); clear hb ho19) | ((with_reducible refine gate_callee (f := 45) rfl ?_); refine gl_ 15 Tryd.func45 #[.pointer (some ⟨g, 0, none⟩), .int .i64 2] ?_; (with_reducible refine (spec_l6Rd_pick.calls k g s0_0 t102 2 t55 t116 w0 _ ?side1 ?side2 A6.out).mono ?_); (case side1 => exact ab4_); (case side2 => exact ab5_); rintro e w20 ⟨rfl, hi, hb, hk⟩; refine ⟨_, rfl, ?_⟩; replace BK103 := am (KeepBut.blk hk (g' := gb103) (o := .cells #[.int .i64 0, .int .i64 0, .slice none 0 0] 29 (0, 0)) (aG_ BK103.out) NB103_0.out (by simp)); replace HO105 := am (Kd.N_mono (Kd.N_keep (Kd.N_mono (ok := fun k_ => (((((w.heap.size ≤ k_)) ∧ (k_ ≠ gb103 ∧ k_ ≠ g)) ∧ k_ ≠ gb115) ∧ some k_ ≠ (v117 : Value).ownBlock)) (aN_ HO105.out) (fun k_ hk_ => (⟨hk_, hk_.1.1.2.2⟩ : _ ∧ k_ ≠ g))) hk (fun _ h => h.2)) (fun _ h => h.1)); replace BK115 := am (KeepBut.blk hk (g' := gb115) (o := .cells #[.int .i64 t37, .int .i64 t99, .slice Ao16 t100.length co16] 29 (0, 0)) (aG_ BK115.out) NB115_0.out (by simp)); replace HO118 := am (Kd.R_mono (Kd.R_keep (IsS65.apart (show IsS65 w0 _ g s0_0 t102 from ab4_) (aR_ HO118.out) (by decide)) hk (fun _ h => h.2)) (fun _ h => h.1)); replace HK := am (KeepBut.trans ab3_ hk (.inl rfl)); replace HB := am (hb); replace HI0 := am (hi); (try clear hb); (try clear hk); (try clear hi); obtain ⟨Ao21, co21, eo21⟩ := Kd.R_slice HO118.out; subst eo21; have p119 : 0 ≤ (t55 : Int) := of_decide_eq_true asm_; have q119 : t55 < (y54.length : Int) := of_decide_eq_true asm_; obtain ⟨ad119, e119, hx119_0⟩ := Kd.at_int (Kd.R_reads' HO118.out).2.2 t55 p119 q119; cases e119; replace p119 := eq_true p119; replace q119 := eq_true q119; obtain ⟨hcz22_0, hcz22_1, hcz22_2, hfz22_0, hfz22_1, hfz22_2⟩ := bcf3_ BK115.out; have hnb23 := NB103_0.out; have hnc23 := NB0_103.out; obtain ⟨hcz24_0, hcz24_1, hcz24_2, hfz24_0, hfz24_1, hfz24_2⟩ := bcf3_ BK103.out))
    refine bodyPost_ret (results_cell_row rfl _ _ gb103 29 #[.int .i64 t37, .int .i64 (rd y54 t55), .slice Ao16 t100.length co16] (0, 0) _ rfl (blk_put (blk_put (blk_put (blk_far BK103.out NB103_115.out _) 0 _ rfl) 1 _ rfl) 2 _ rfl) Tryd.underlying29 rfl (by kernel_rfl)) rfl ?_
    exact ⟨_, ab16_, aNw_ (Kd.N_mono (Kd.N_far (p := ⟨gb103, 2, none⟩) (Kd.N_far (p := ⟨gb103, 1, none⟩) (Kd.N_far (p := ⟨gb103, 0, none⟩) (Kd.N_far (p := ⟨gb115, 1, none⟩) (Kd.N_mono (Kd.N_mono HO105.out (fun k_ hk => (⟨hk, hk.1.2⟩ : _ ∧ k_ ≠ gb115))) (fun k_ hk => (⟨hk, hk.1.1.1.2.1⟩ : _ ∧ k_ ≠ gb103))) (fun _ hk => hk.1.2) (.int .i64 (rd y54 t55))) (fun _ hk => hk.2) (.int .i64 t37)) (fun _ hk => hk.2) (.int .i64 (rd y54 t55))) (fun _ hk => hk.2) (.slice Ao16 t100.length co16)) (fun _ hk => hk.1.1.1.1.1)), ab4_, ab5_, ab3_⟩
   rw [if_neg c8] at H
   exact absurd H (by simp)
  rw [if_neg c7] at H
  exact absurd H (by simp)
 rw [if_neg c5] at H
 have c5b0 : (t53 == 0) = false := beq_eq_false_iff_ne.mpr c5
 have c5b1 : (t53 != 0) = true := bne_iff_ne.mpr c5
 by_cases c25 : t53 = 1
 ·rw [if_pos c25] at H
  have c25b0 : (t53 == 1) = true := beq_iff_eq.mpr c25
  have c25b1 : (t53 != 1) = false := bne_eq_false_iff_eq.mpr c25
  clear c25
  obtain ⟨y56, hy_⟩ : ∃ y_ : List Int, y_ = (([(-1), 14] : List Int)) := ⟨_, rfl⟩
  replace H : ((spec_l6Rd_pick.f k s0_0 t102 2).bind fun bt71 => (if 0 ≤ bt71.1 then (if bt71.1 < (y56.length : Int) then (some (rd y56 bt71.1, t99, t100, bt71.2)) else (none)) else (none))) = some (r1, r2, r3, r4) := rx_
  have Ny56 := am hy_
  clear hy_
  obtain ⟨⟨t71, t120⟩, A121, H⟩ := bsm H
  (try dsimp only at H)
  have A26 := am A121
  clear A121
  by_cases c27 : 0 ≤ t71
  ·rw [if_pos c27] at H
   have c27b0 : decide (0 ≤ t71) = true := decide_eq_true c27
   clear c27
   by_cases c28 : t71 < (y56.length : Int)
   ·rw [if_pos c28] at H
    have c28b0 : decide (t71 < (y56.length : Int)) = true := decide_eq_true c28
    clear c28
    simp only [Option.some.injEq, Prod.mk.injEq] at H
    obtain ⟨rfl, rfl, rfl, rfl⟩ := H
    go_wp2_with (first | ((with_reducible refine gate_dst (N := 21) rfl ?_); refine Kd.R_lit (Kd.int .i64) _ 3 rfl (N := 21) rfl (xs := ([(-1), 14] : List Int)) (inner := [.int .i64 (-1), .int .i64 14]) (ok := fun _ => True) (okp := fun _ => True) rn_ ?hp (fun _ hk => hk) trivial (Below.refl _ _) (Nat.le_refl _) (by simp) ?_; (case hp => exact (Reps.one (show Kd.M (Kd.int .i64) _ _ _ (-1) [.int .i64 (-1)] from rfl) (Reps.one (show Kd.M (Kd.int .i64) _ _ _ 14 [.int .i64 14] from rfl) (Reps.none _ _)))); intro v122 w38 ho39 hb hg_ hnew_; clear hg_ hnew_; (first | rw [← Ny56.out] at ho39 | (simp only [Int.reduceToNat] at ho39; rw [← Ny56.out] at ho39)); replace HO105 := am (Kd.N_elder' (aN_ HO105.out) (Kd.R_base ho39) hb); have HO123 := am (Kd.R_lower (Kd.R_newM (M := fun k_ => (w.heap.size ≤ k_)) ho39 (keep_size (w := w) (g := g) (row := none) ab3_) (fun k_ h_ => h_)) (keep_size (w := w) (g := g) (row := none) ab3_)); replace BK103 := am (bbl_ BK103.out hb); replace BK115 := am (bbl_ BK115.out hb); replace HK := am (KeepBut.trans ab3_ (KeepBut.of_below hb g none) (.inl rfl)); replace HB := am (below_step ab5_ hb); replace HI0 := am (IsS65.below ab4_ hb); clear hb ho39) | ((with_reducible refine gate_callee (f := 45) rfl ?_); refine gl_ 23 Tryd.func45 #[.pointer (some ⟨g, 0, none⟩), .int .i64 2] ?_; (with_reducible refine (spec_l6Rd_pick.calls k g s0_0 t102 2 t71 t120 w0 _ ?side1 ?side2 A26.out).mono ?_); (case side1 => exact ab4_); (case side2 => exact ab5_); rintro e w40 ⟨rfl, hi, hb, hk⟩; refine ⟨_, rfl, ?_⟩; replace BK103 := am (KeepBut.blk hk (g' := gb103) (o := .cells #[.int .i64 0, .int .i64 0, .slice none 0 0] 29 (0, 0)) (aG_ BK103.out) NB103_0.out (by simp)); replace HO105 := am (Kd.N_mono (Kd.N_keep (Kd.N_mono (ok := fun k_ => (((((w.heap.size ≤ k_)) ∧ (k_ ≠ gb103 ∧ k_ ≠ g)) ∧ k_ ≠ gb115) ∧ some k_ ≠ (v122 : Value).ownBlock)) (aN_ HO105.out) (fun k_ hk_ => (⟨hk_, hk_.1.1.2.2⟩ : _ ∧ k_ ≠ g))) hk (fun _ h => h.2)) (fun _ h => h.1)); replace BK115 := am (KeepBut.blk hk (g' := gb115) (o := .cells #[.int .i64 t37, .int .i64 t99, .slice Ao16 t100.length co16] 29 (0, 0)) (aG_ BK115.out) NB115_0.out (by simp)); replace HO123 := am (Kd.R_mono (Kd.R_keep (IsS65.apart (show IsS65 w0 _ g s0_0 t102 from ab4_) (aR_ HO123.out) (by decide)) hk (fun _ h => h.2)) (fun _ h => h.1)); replace HK := am (KeepBut.trans ab3_ hk (.inl rfl)); replace HB := am (hb); replace HI0 := am (hi); (try clear hb); (try clear hk); (try clear hi); obtain ⟨Ao41, co41, eo41⟩ := Kd.R_slice HO123.out; subst eo41; have p128 : 0 ≤ (t71 : Int) := of_decide_eq_true asm_; have q128 : t71 < (y56.length : Int) := of_decide_eq_true asm_; obtain ⟨ad128, e128, hx128_0⟩ := Kd.at_int (Kd.R_reads' HO123.out).2.2 t71 p128 q128; cases e128; replace p128 := eq_true p128; replace q128 := eq_true q128; obtain ⟨hcz42_0, hcz42_1, hcz42_2, hfz42_0, hfz42_1, hfz42_2⟩ := bcf3_ BK115.out; have hnb43 := NB103_0.out; have hnc43 := NB0_103.out; obtain ⟨hcz44_0, hcz44_1, hcz44_2, hfz44_0, hfz44_1, hfz44_2⟩ := bcf3_ BK103.out))
    refine bodyPost_ret (results_cell_row rfl _ _ gb103 29 #[.int .i64 (rd y56 t71), .int .i64 t99, .slice Ao16 t100.length co16] (0, 0) _ rfl (blk_put (blk_put (blk_put (blk_far BK103.out NB103_115.out _) 0 _ rfl) 1 _ rfl) 2 _ rfl) Tryd.underlying29 rfl (by kernel_rfl)) rfl ?_
    exact ⟨_, ab16_, aNw_ (Kd.N_mono (Kd.N_far (p := ⟨gb103, 2, none⟩) (Kd.N_far (p := ⟨gb103, 1, none⟩) (Kd.N_far (p := ⟨gb103, 0, none⟩) (Kd.N_far (p := ⟨gb115, 0, none⟩) (Kd.N_mono (Kd.N_mono HO105.out (fun k_ hk => (⟨hk, hk.1.2⟩ : _ ∧ k_ ≠ gb115))) (fun k_ hk => (⟨hk, hk.1.1.1.2.1⟩ : _ ∧ k_ ≠ gb103))) (fun _ hk => hk.1.2) (.int .i64 (rd y56 t71))) (fun _ hk => hk.2) (.int .i64 (rd y56 t71))) (fun _ hk => hk.2) (.int .i64 t99)) (fun _ hk => hk.2) (.slice Ao16 t100.length co16)) (fun _ hk => hk.1.1.1.1.1)), ab4_, ab5_, ab3_⟩
   rw [if_neg c28] at H
   exact absurd H (by simp)
  rw [if_neg c27] at H
  exact absurd H (by simp)
 rw [if_neg c25] at H
 have c25b0 : (t53 == 1) = false := beq_eq_false_iff_ne.mpr c25
 have c25b1 : (t53 != 1) = true := bne_iff_ne.mpr c25
 by_cases c45 : t53 = 2
 ·rw [if_pos c45] at H
  have c45b0 : (t53 == 2) = true := beq_iff_eq.mpr c45
  have c45b1 : (t53 != 2) = false := bne_eq_false_iff_eq.mpr c45
  clear c45
  obtain ⟨⟨t72, t129, t130, t131⟩, A132, H⟩ := bsm H
  (try dsimp only at H)
  have A46 := am A132
  clear A132
  by_cases c47 : t100.length < 3518437208883
  ·rw [if_pos c47] at H
   have LMc47 := am c47
   clear c47
   obtain ⟨y133, hy_⟩ : ∃ y_ : List (S29), y_ = (t100 ++ [(⟨t72, t129, t130⟩ : S29)]) := ⟨_, rfl⟩
   replace H : (some (t37, t99, y133, t131)) = some (r1, r2, r3, r4) := rx_
   have Ny133 := am hy_
   clear hy_
   simp only [Option.some.injEq, Prod.mk.injEq] at H
   obtain ⟨rfl, rfl, rfl, rfl⟩ := H
   try go_wp2
   replace HO105 := am (Kd.N_drew HO105.out)
   replace BK103 := am (blk_drew BK103.out)
   replace BK115 := am (blk_drew BK115.out)
   replace HI0 := am (IsS65.drew HI0.out)
   replace HK := am (keep_drew HK.out)
   replace HB := am (below_drew1 HB.out)
   refine start_ (n := 8) (S := fun w' => w'.cell? ⟨gb115, 0, none⟩ = some (.int .i64 t37) ∧ w'.cell? ⟨gb115, 1, none⟩ = some (.int .i64 t99) ∧ w'.cell? ⟨gb115, 2, none⟩ = some (.slice Ao16 t100.length co16)) (ds := [7]) (bz 8 0) (by kernel_rfl) rfl rfl ⟨(blk_cell BK115.out 0).trans rfl, (blk_cell BK115.out 1).trans rfl, (blk_cell BK115.out 2).trans rfl⟩ (fun hHeld => ?_); refine with_tabW spec_l91Spoilt.tab8 spec_l91Spoilt.bits8 (fun HT_ HW_ => ?_)
   generalize w17.drew = w57 at HO105 BK103 BK115 HI0 HK HB hHeld ⊢
   refine pr_ 0 29 (bz 8 1) HT_ ?_
   refine pr_ 2 31 (bz 8 5) HT_ ?_
   refine tk3_ 1 30 (bz 8 7) HT_ HW_ hHeld ?_
   refine one_ (i := 3) (N := some 32) (bz 8 15) rfl rfl (one_of HT_.out (by kernel_rfl)) (by decide) (fun K hK => ?_)
   refine goes_ Tryd.func46 (by kernel_rfl) rfl #[.pointer (some ⟨g, 0, none⟩)] (by rfl) rfl rfl ab1_ ?_
   with_reducible refine (spec_l91Leaf.calls k g s0_0 t102 t72 t129 t130 t131 w0 _ ?side1 ?side2 A46.out).mono ?_
   (case side1 => exact ab4_)
   (case side2 => exact ab5_)
   rintro e w58 ⟨v134, rfl, ho0, hi, hb, hk⟩
   refine ⟨_, rfl, ?_⟩
   have HO135 := am (Kd.N_lower (Kd.N_mono (ok' := fun k_ => (w.heap.size ≤ k_) ∧ some k_ ≠ (.slice Ao16 t100.length co16 : Value).ownBlock ∧ k_ ≠ gb103 ∧ k_ ≠ gb115 ∧ k_ ≠ g) (Kd.R_N (Kd.R_bound ho0)) (fun k_ hk_ => ⟨(Nat.le_trans (keep_size (w := w) (g := g) (row := none) ab3_) hk_.2.1), (Kd.fresh' (Kd.N_lt (aN_ HO105.out)) k_ hk_.2.1), (frb_ BK103.out k_ hk_.2.1), (frb_ BK115.out k_ hk_.2.1), (IsS65.fresh ab4_ k_ hk_.2.1)⟩)) (keep_size (w := w) (g := g) (row := none) ab3_))
   replace BK103 := am (KeepBut.blk hk (g' := gb103) (o := .cells #[.int .i64 0, .int .i64 0, .slice none 0 0] 29 (0, 0)) (aG_ BK103.out) NB103_0.out (by simp))
   replace HO105 := am (Kd.N_mono (Kd.N_told (Kd.N_oldK (Kd.N_mono (ok := fun k_ => ((((w.heap.size ≤ k_)) ∧ (k_ ≠ gb103 ∧ k_ ≠ g)) ∧ k_ ≠ gb115)) (aN_ HO105.out) (fun k_ hk_ => (⟨hk_, hk_.1.2.2⟩ : _ ∧ k_ ≠ g))) hk) (by first | exact Kd.N_base ho0 | exact Kd.N_base (Kd.R_N ho0))) (fun _ h_ => h_.1))
   replace BK115 := am (KeepBut.blk hk (g' := gb115) (o := .cells #[.int .i64 t37, .int .i64 t99, .slice Ao16 t100.length co16] 29 (0, 0)) (aG_ BK115.out) NB115_0.out (by simp))
   replace HK := am (KeepBut.trans ab3_ hk (.inl rfl))
   replace HB := am (hb)
   replace HI0 := am (hi)
   (try clear hb)
   (try clear hb2)
   (try clear hk)
   (try clear hi)
   (try clear ho0)
   obtain ⟨Ao60, co60, eo60⟩ := Kd.N_slice HO135.out
   (first | subst eo60 | (injection eo60 with f1_ f2_ f3_; have f4_ := f1_.symm; have f5_ := f3_.symm; clear f1_ f2_ f3_; subst f4_; subst f5_))
   refine hK.out _ _ ⟨(blk_cell BK115.out 0).trans rfl, (blk_cell BK115.out 1).trans rfl, (blk_cell BK115.out 2).trans rfl⟩ (fun hHeld => ?_)
   clear hK K
   refine norm_ (a' := ?_) ?_ ?_
   rotate_left
   ·show Act.put _ (some 32) _ = _
    simp only [Act.put, List.setIfInBounds_toArray, List.set_cons_zero, List.set_cons_succ, i64_w, i32_w]
    rfl
   refine one_ (i := 4) (N := some 33) (bz 8 31) rfl rfl (one_of HT_.out (by kernel_rfl)) (by decide) (fun K hK => ?_)
   refine value_ (w1 := ?_) (v := ?_) (by rfl) rfl ?_ ?_
   rotate_left 2
   ·go_simp
    constructor
    ·rfl
    ·rfl
   refine hK.out _ _ ⟨(blk_cell (blk_alloc BK115.out _) 0).trans rfl, (blk_cell (blk_alloc BK115.out _) 1).trans rfl, (blk_cell (blk_alloc BK115.out _) 2).trans rfl⟩ (fun hHeld => ?_)
   clear hK K
   refine norm_ (a' := ?_) ?_ ?_
   rotate_left
   ·show Act.put _ (some 33) _ = _
    simp only [Act.put, List.setIfInBounds_toArray, List.set_cons_zero, List.set_cons_succ, i64_w, i32_w]
    rfl
   refine one_ (i := 5) (N := some 34) (bz 8 63) rfl rfl (one_of HT_.out (by kernel_rfl)) (by decide) (fun K hK => ?_)
   refine Kd.N_append_step k29 w.heap.size (by rfl) (.tmp 30) (.tmp 33) 27 29 (.agg #[(.int .i64 0), (.int .i64 0), (.slice none 0 0)]) 40 rfl Tryd.underlying27 info29 rfl (by decide) (by omega) (.slice Ao16 t100.length co16) t100 (⟨t72, t129, t130⟩ : S29) [.int .i64 t72, .int .i64 t129, .slice Ao60 t130.length co60] (fun k_ => (w.heap.size ≤ k_) ∧ k_ ≠ gb103 ∧ k_ ≠ gb115 ∧ k_ ≠ g) (fun k_ => ((fun k_ => (w.heap.size ≤ k_) ∧ k_ ≠ gb103 ∧ k_ ≠ gb115 ∧ k_ ≠ g)) k_ ∧ some k_ ≠ (.slice Ao16 t100.length co16 : Value).ownBlock) rfl rfl ?aP (fun _ hk => hk) ?aF ?aO (Below.refl _ _) ?aS ?aL ?_
   (case aP => exact (k29_mkF _ _ (⟨t72, t129, t130⟩ : S29) (Kd.N_reads' (Kd.N_mono (ok' := (fun k_ => ((fun k_ => (w.heap.size ≤ k_) ∧ k_ ≠ gb103 ∧ k_ ≠ gb115 ∧ k_ ≠ g)) k_ ∧ some k_ ≠ (.slice Ao16 t100.length co16 : Value).ownBlock)) (HO135.out) (fun k_ hk => ⟨⟨hk.1, ⟨hk.2.2.1, ⟨hk.2.2.2.1, hk.2.2.2.2⟩⟩⟩, hk.2.1⟩))).2.1 (Kd.N_F (Kd.N_mono (ok' := (fun k_ => ((fun k_ => (w.heap.size ≤ k_) ∧ k_ ≠ gb103 ∧ k_ ≠ gb115 ∧ k_ ≠ g)) k_ ∧ some k_ ≠ (.slice Ao16 t100.length co16 : Value).ownBlock)) (HO135.out) (fun k_ hk => ⟨⟨hk.1, ⟨hk.2.2.1, ⟨hk.2.2.2.1, hk.2.2.2.2⟩⟩⟩, hk.2.1⟩)))))
   (case aF => exact (fun k_ hk => ⟨(Nat.le_trans (keep_size (w := w) (g := g) (row := none) ab3_) hk), frb_ BK103.out k_ hk, frb_ BK115.out k_ hk, IsS65.fresh ab4_ k_ hk⟩))
   (case aO => exact (aNw_ (Kd.N_mono HO105.out (fun _ hk => ⟨hk.1.1.1, ⟨hk.1.1.2.1, ⟨hk.1.2, hk.1.1.2.2⟩⟩⟩))))
   (case aS => exact (keep_size (w := w) (g := g) (row := none) ab3_))
   (case aL => have := LMc47.out; omega)
   intro v136 w59 ho hb hg hat
   rw [← Ny133.out] at ho
   replace BK103 := am (blk_grown (g := gb103) (o := .cells #[.int .i64 0, .int .i64 0, .slice none 0 0] 29 (0, 0)) (aG_ BK103.out) hg (Kd.N_away HO105.out (fun _ hk => hk.1.1.2.1)))
   replace BK115 := am (blk_grown (g := gb115) (o := .cells #[.int .i64 t37, .int .i64 t99, .slice Ao16 t100.length co16] 29 (0, 0)) (aG_ BK115.out) hg (Kd.N_away HO105.out (fun _ hk => hk.1.2)))
   replace HB := am (below_weaken ab5_ HL.out hb)
   replace HI0 := am (IsS65.grown ab4_ hg (IsS65.own_neN HI0.out HO105.out (by decide)))
   replace HK := am (KeepBut.trans ab3_ (KeepBut.of_grown hg g) (Kd.N_base2 HO105.out))
   have HO137 := am (ho)
   clear HO105 HO135
   clear ho hb hg hat
   obtain ⟨Ao61, co61, eo61⟩ := Kd.N_slice HO137.out
   (first | subst eo61 | (injection eo61 with f1_ f2_ f3_; have f4_ := f1_.symm; have f5_ := f3_.symm; clear f1_ f2_ f3_; subst f4_; subst f5_))
   refine hK.out _ _ ⟨(blk_cell BK115.out 0).trans rfl, (blk_cell BK115.out 1).trans rfl, (blk_cell BK115.out 2).trans rfl⟩ (fun hHeld => ?_)
   clear hK K
   refine norm_ (a' := ?_) ?_ ?_
   rotate_left
   ·show Act.put _ (some 34) _ = _
    simp only [Act.put, List.setIfInBounds_toArray, List.set_cons_zero, List.set_cons_succ, i64_w, i32_w]
    rfl
   refine pr_ 6 35 (bz 8 127) HT_ ?_
   refine last_ (i := 7) (N := none) (bz 8 255) rfl rfl (one_of HT_.out (by kernel_rfl)) (by decide) (fun K hK => ?_)
   have hs62 : w59.cell? ⟨gb115, 2, none⟩ = some (.slice Ao16 t100.length co16) := (blk_cell BK115.out 2).trans rfl
   have hfs62 := blk_frozen BK115.out 2
   have hns62_0 := NB103_115.out
   have hms62_0 := NB115_103.out
   refine skip_ (w1 := ?_) (by rfl) rfl ?_ ?_
   rotate_left
   ·go_simp
    rfl
   refine hK.out _ _ ?_
   clear hK K
   refine done_ (done_of HT_.out (by kernel_rfl)) ?_
   obtain ⟨hcz63_0, hcz63_1, hcz63_2, hfz63_0, hfz63_1, hfz63_2⟩ := bcf3_ BK115.out
   have hnb64 := NB103_0.out
   have hnc64 := NB0_103.out
   obtain ⟨hcz65_0, hcz65_1, hcz65_2, hfz65_0, hfz65_1, hfz65_2⟩ := bcf3_ BK103.out
   try go_wp2
   refine bodyPost_ret (results_cell_row rfl _ _ gb103 29 #[.int .i64 t37, .int .i64 t99, .slice Ao61 y133.length co61] (0, 0) _ rfl (blk_put (blk_put (blk_put (blk_far BK103.out NB103_115.out _) 0 _ rfl) 1 _ rfl) 2 _ rfl) Tryd.underlying29 rfl (by kernel_rfl)) rfl ?_
   exact ⟨_, ab16_, aNw_ (Kd.N_mono (Kd.N_far (p := ⟨gb103, 2, none⟩) (Kd.N_far (p := ⟨gb103, 1, none⟩) (Kd.N_far (p := ⟨gb103, 0, none⟩) (Kd.N_far (p := ⟨gb115, 2, none⟩) (Kd.N_mono (Kd.N_mono HO137.out (fun k_ hk => (⟨hk, hk.2.2.1⟩ : _ ∧ k_ ≠ gb115))) (fun k_ hk => (⟨hk, hk.1.2.1⟩ : _ ∧ k_ ≠ gb103))) (fun _ hk => hk.1.2) (.slice Ao61 y133.length co61)) (fun _ hk => hk.2) (.int .i64 t37)) (fun _ hk => hk.2) (.int .i64 t99)) (fun _ hk => hk.2) (.slice Ao61 y133.length co61)) (fun _ hk => hk.1.1.1)), ab4_, ab5_, ab3_⟩
  rw [if_neg c47] at H
  exact absurd H (by simp)
 rw [if_neg c45] at H
 have c45b0 : (t53 == 2) = false := beq_eq_false_iff_ne.mpr c45
 have c45b1 : (t53 != 2) = true := bne_iff_ne.mpr c45
 by_cases c66 : t53 = 3
 ·rw [if_pos c66] at H
  have c66b0 : (t53 == 3) = true := beq_iff_eq.mpr c66
  have c66b1 : (t53 != 3) = false := bne_eq_false_iff_eq.mpr c66
  clear c66
  obtain ⟨⟨t73, t138, t139, t140⟩, A141, H⟩ := bsm H
  (try dsimp only at H)
  have A67 := am A141
  clear A141
  obtain ⟨⟨t74, t142, t143⟩, A144, H⟩ := bsm H
  (try dsimp only at H)
  have A68 := am A144
  clear A144
  obtain ⟨⟨t75, t145, t146, t147⟩, A148, H⟩ := bsm H
  (try dsimp only at H)
  have A69 := am A148
  clear A148
  obtain ⟨⟨t76, t149, t150⟩, A151, H⟩ := bsm H
  (try dsimp only at H)
  have A70 := am A151
  clear A151
  simp only [Option.some.injEq, Prod.mk.injEq] at H
  obtain ⟨rfl, rfl, rfl, rfl⟩ := H
  try go_wp2
  replace HO105 := am (Kd.N_drew HO105.out)
  replace BK103 := am (blk_drew BK103.out)
  replace BK115 := am (blk_drew BK115.out)
  replace HI0 := am (IsS65.drew HI0.out)
  replace HK := am (keep_drew HK.out)
  replace HB := am (below_drew1 HB.out)
  refine start_ (n := 8) (S := fun w' => w'.cell? ⟨gb115, 0, none⟩ = some (.int .i64 t37) ∧ w'.cell? ⟨gb115, 1, none⟩ = some (.int .i64 t99) ∧ w'.cell? ⟨gb115, 2, none⟩ = some (.slice Ao16 t100.length co16)) (ds := []) (bz 8 0) (by kernel_rfl) rfl rfl ⟨(blk_cell BK115.out 0).trans rfl, (blk_cell BK115.out 1).trans rfl, (blk_cell BK115.out 2).trans rfl⟩ (fun hHeld => ?_); refine with_tabW spec_l91Spoilt.tab10 spec_l91Spoilt.bits10 (fun HT_ HW_ => ?_)
  generalize w17.drew = w80 at HO105 BK103 BK115 HI0 HK HB hHeld ⊢
  refine pr_ 1 39 (bz 8 2) HT_ ?_
  refine pr_ 4 42 (bz 8 18) HT_ ?_
  refine tk3_ 0 38 (bz 8 19) HT_ HW_ hHeld ?_
  refine one_ (i := 2) (N := some 40) (bz 8 23) rfl rfl (one_of HT_.out (by kernel_rfl)) (by decide) (fun K hK => ?_)
  refine goes_ Tryd.func46 (by kernel_rfl) rfl #[.pointer (some ⟨g, 0, none⟩)] (by rfl) rfl rfl ab1_ ?_
  with_reducible refine (spec_l91Leaf.calls k g s0_0 t102 t73 t138 t139 t140 w0 _ ?side1 ?side2 A67.out).mono ?_
  (case side1 => exact ab4_)
  (case side2 => exact ab5_)
  rintro e w81 ⟨v152, rfl, ho0, hi, hb, hk⟩
  refine ⟨_, rfl, ?_⟩
  have HO153 := am (Kd.N_lower (Kd.N_mono (ok' := fun k_ => (w.heap.size ≤ k_) ∧ some k_ ≠ (.slice Ao16 t100.length co16 : Value).ownBlock ∧ k_ ≠ gb103 ∧ k_ ≠ gb115 ∧ k_ ≠ g) (Kd.R_N (Kd.R_bound ho0)) (fun k_ hk_ => ⟨(Nat.le_trans (keep_size (w := w) (g := g) (row := none) ab3_) hk_.2.1), (Kd.fresh' (Kd.N_lt (aN_ HO105.out)) k_ hk_.2.1), (frb_ BK103.out k_ hk_.2.1), (frb_ BK115.out k_ hk_.2.1), (IsS65.fresh ab4_ k_ hk_.2.1)⟩)) (keep_size (w := w) (g := g) (row := none) ab3_))
  replace BK103 := am (KeepBut.blk hk (g' := gb103) (o := .cells #[.int .i64 0, .int .i64 0, .slice none 0 0] 29 (0, 0)) (aG_ BK103.out) NB103_0.out (by simp))
  replace HO105 := am (Kd.N_mono (Kd.N_told (Kd.N_oldK (Kd.N_mono (ok := fun k_ => ((((w.heap.size ≤ k_)) ∧ (k_ ≠ gb103 ∧ k_ ≠ g)) ∧ k_ ≠ gb115)) (aN_ HO105.out) (fun k_ hk_ => (⟨hk_, hk_.1.2.2⟩ : _ ∧ k_ ≠ g))) hk) (by first | exact Kd.N_base ho0 | exact Kd.N_base (Kd.R_N ho0))) (fun _ h_ => h_.1))
  replace BK115 := am (KeepBut.blk hk (g' := gb115) (o := .cells #[.int .i64 t37, .int .i64 t99, .slice Ao16 t100.length co16] 29 (0, 0)) (aG_ BK115.out) NB115_0.out (by simp))
  replace HK := am (KeepBut.trans ab3_ hk (.inl rfl))
  replace HB := am (hb)
  replace HI0 := am (hi)
  (try clear hb)
  (try clear hb2)
  (try clear hk)
  (try clear hi)
  (try clear ho0)
  obtain ⟨Ao82, co82, eo82⟩ := Kd.N_slice HO153.out
  (first | subst eo82 | (injection eo82 with f1_ f2_ f3_; have f4_ := f1_.symm; have f5_ := f3_.symm; clear f1_ f2_ f3_; subst f4_; subst f5_))
  refine hK.out _ _ ⟨(blk_cell BK115.out 0).trans rfl, (blk_cell BK115.out 1).trans rfl, (blk_cell BK115.out 2).trans rfl⟩ (fun hHeld => ?_)
  clear hK K
  refine norm_ (a' := ?_) ?_ ?_
  rotate_left
  ·show Act.put _ (some 40) _ = _
   simp only [Act.put, List.setIfInBounds_toArray, List.set_cons_zero, List.set_cons_succ, i64_w, i32_w]
   rfl
  refine one_ (i := 3) (N := some 41) (bz 8 31) rfl rfl (one_of HT_.out (by kernel_rfl)) (by decide) (fun K hK => ?_)
  refine goes_ Tryd.func47 (by kernel_rfl) rfl #[.int .i64 8, .agg #[.int .i64 t37, .int .i64 t99, .slice Ao16 t100.length co16], .agg #[.int .i64 t73, .int .i64 t138, .slice Ao82 t139.length co82]] (by rfl) rfl rfl ab1_ ?_
  with_reducible refine (spec_l4Both.calls 8 t37 t99 (fun k_ => ((((w.heap.size ≤ k_) ∧ (k_ ≠ gb103 ∧ k_ ≠ g)) ∧ k_ ≠ gb115) ∧ some k_ ≠ (.slice Ao82 t139.length co82 : Value).ownBlock)) _ _ t100 t73 t138 (fun k_ => ((w.heap.size ≤ k_) ∧ (some k_ ≠ (.slice Ao16 t100.length co16 : Value).ownBlock ∧ (k_ ≠ gb103 ∧ (k_ ≠ gb115 ∧ k_ ≠ g))))) _ _ t139 t74 t142 t143 _ ?side1 ?side2 A68.out).mono ?_
  (case side1 => exact Kd.N_V (HO105.out))
  (case side2 => exact Kd.N_V (HO153.out))
  rintro e w83 ⟨v154, rfl, ho0, hb⟩
  refine ⟨_, rfl, ?_⟩
  replace HO105 := am (Kd.N_elder' (aN_ HO105.out) (by first | exact Kd.N_base ho0 | exact Kd.N_base (Kd.R_N ho0)) hb)
  replace HO153 := am (Kd.N_elder' (aN_ HO153.out) (by first | exact Kd.N_base ho0 | exact Kd.N_base (Kd.R_N ho0)) hb)
  have HO155 := am (Kd.N_lower (Kd.N_mono (ok' := fun k_ => (w.heap.size ≤ k_) ∧ k_ ≠ gb103 ∧ k_ ≠ gb115 ∧ k_ ≠ g) ho0 (fun k_ hk_ => ⟨Or.elim hk_ (fun hs_ => Or.elim hs_ (fun hs_ => hs_.1.1.1) (fun hs_ => hs_.1)) (fun hn_ => (Nat.le_trans (keep_size (w := w) (g := g) (row := none) ab3_) hn_)), Or.elim hk_ (fun hs_ => Or.elim hs_ (fun hs_ => hs_.1.1.2.1) (fun hs_ => hs_.2.2.1)) (fun hn_ => (frb_ BK103.out k_ hn_)), Or.elim hk_ (fun hs_ => Or.elim hs_ (fun hs_ => hs_.1.2) (fun hs_ => hs_.2.2.2.1)) (fun hn_ => (frb_ BK115.out k_ hn_)), Or.elim hk_ (fun hs_ => Or.elim hs_ (fun hs_ => hs_.1.1.2.2) (fun hs_ => hs_.2.2.2.2)) (fun hn_ => (IsS65.fresh ab4_ k_ hn_))⟩)) (keep_size (w := w) (g := g) (row := none) ab3_))
  replace BK103 := am (bbl_ BK103.out hb)
  replace BK115 := am (bbl_ BK115.out hb)
  replace HK := am (KeepBut.trans ab3_ (KeepBut.of_below hb g none) (.inl rfl))
  replace HB := am (below_step ab5_ hb)
  replace HI0 := am (IsS65.below ab4_ hb)
  (try clear hb)
  (try clear hb2)
  (try clear hk)
  (try clear hi)
  (try clear ho0)
  refine hK.out _ _ ⟨(blk_cell BK115.out 0).trans rfl, (blk_cell BK115.out 1).trans rfl, (blk_cell BK115.out 2).trans rfl⟩ (fun hHeld => ?_)
  clear hK K
  refine norm_ (a' := ?_) ?_ ?_
  rotate_left
  ·show Act.put _ (some 41) _ = _
   simp only [Act.put, List.setIfInBounds_toArray, List.set_cons_zero, List.set_cons_succ, i64_w, i32_w]
   rfl
  refine one_ (i := 5) (N := some 43) (bz 8 63) rfl rfl (one_of HT_.out (by kernel_rfl)) (by decide) (fun K hK => ?_)
  refine goes_ Tryd.func44 (by kernel_rfl) rfl #[.pointer (some ⟨g, 0, none⟩), .int .i64 5] (by rfl) rfl rfl ab1_ ?_
  with_reducible refine (spec_l91Expr.calls k g s0_0 t140 5 t75 t145 t146 t147 w0 _ ?side1 ?side2 A69.out).mono ?_
  (case side1 => exact ab4_)
  (case side2 => exact ab5_)
  rintro e w84 ⟨v156, rfl, ho0, hi, hb, hk⟩
  refine ⟨_, rfl, ?_⟩
  have HO157 := am (Kd.N_lower (Kd.N_mono (ok' := fun k_ => (w.heap.size ≤ k_) ∧ some k_ ≠ (.slice Ao16 t100.length co16 : Value).ownBlock ∧ some k_ ≠ (.slice Ao82 t139.length co82 : Value).ownBlock ∧ some k_ ≠ (v154 : Value).ownBlock ∧ k_ ≠ gb103 ∧ k_ ≠ gb115 ∧ k_ ≠ g) ho0 (fun k_ hk_ => ⟨(Nat.le_trans (keep_size (w := w) (g := g) (row := none) ab3_) hk_), (Kd.fresh' (Kd.N_lt (aN_ HO105.out)) k_ hk_), (Kd.fresh' (Kd.N_lt (aN_ HO153.out)) k_ hk_), (Kd.fresh' (Kd.N_lt (aN_ HO155.out)) k_ hk_), (frb_ BK103.out k_ hk_), (frb_ BK115.out k_ hk_), (IsS65.fresh ab4_ k_ hk_)⟩)) (keep_size (w := w) (g := g) (row := none) ab3_))
  replace BK103 := am (KeepBut.blk hk (g' := gb103) (o := .cells #[.int .i64 0, .int .i64 0, .slice none 0 0] 29 (0, 0)) (aG_ BK103.out) NB103_0.out (by simp))
  replace HO105 := am (Kd.N_mono (Kd.N_told (Kd.N_oldK (Kd.N_mono (ok := fun k_ => ((((((w.heap.size ≤ k_)) ∧ (k_ ≠ gb103 ∧ k_ ≠ g)) ∧ k_ ≠ gb115) ∧ some k_ ≠ (.slice Ao82 t139.length co82 : Value).ownBlock) ∧ some k_ ≠ (v154 : Value).ownBlock)) (aN_ HO105.out) (fun k_ hk_ => (⟨hk_, hk_.1.1.1.2.2⟩ : _ ∧ k_ ≠ g))) hk) (by first | exact Kd.N_base ho0 | exact Kd.N_base (Kd.R_N ho0))) (fun _ h_ => h_.1))
  replace BK115 := am (KeepBut.blk hk (g' := gb115) (o := .cells #[.int .i64 t37, .int .i64 t99, .slice Ao16 t100.length co16] 29 (0, 0)) (aG_ BK115.out) NB115_0.out (by simp))
  replace HO153 := am (Kd.N_mono (Kd.N_told (Kd.N_oldK (Kd.N_mono (ok := fun k_ => ((((w.heap.size ≤ k_)) ∧ (some k_ ≠ (.slice Ao16 t100.length co16 : Value).ownBlock ∧ (k_ ≠ gb103 ∧ (k_ ≠ gb115 ∧ k_ ≠ g)))) ∧ some k_ ≠ (v154 : Value).ownBlock)) (aN_ HO153.out) (fun k_ hk_ => (⟨hk_, hk_.1.2.2.2.2⟩ : _ ∧ k_ ≠ g))) hk) (by first | exact Kd.N_base ho0 | exact Kd.N_base (Kd.R_N ho0))) (fun _ h_ => h_.1))
  replace HO155 := am (Kd.N_mono (Kd.N_told (Kd.N_oldK (Kd.N_mono (ok := fun k_ => (((w.heap.size ≤ k_)) ∧ (k_ ≠ gb103 ∧ (k_ ≠ gb115 ∧ k_ ≠ g)))) (aN_ HO155.out) (fun k_ hk_ => (⟨hk_, hk_.2.2.2⟩ : _ ∧ k_ ≠ g))) hk) (by first | exact Kd.N_base ho0 | exact Kd.N_base (Kd.R_N ho0))) (fun _ h_ => h_.1))
  replace HK := am (KeepBut.trans ab3_ hk (.inl rfl))
  replace HB := am (hb)
  replace HI0 := am (hi)
  (try clear hb)
  (try clear hb2)
  (try clear hk)
  (try clear hi)
  (try clear ho0)
  obtain ⟨Ao85, co85, eo85⟩ := Kd.N_slice HO155.out
  (first | subst eo85 | (injection eo85 with f1_ f2_ f3_; have f4_ := f1_.symm; have f5_ := f3_.symm; clear f1_ f2_ f3_; subst f4_; subst f5_))
  obtain ⟨Ao86, co86, eo86⟩ := Kd.N_slice HO157.out
  (first | subst eo86 | (injection eo86 with f1_ f2_ f3_; have f4_ := f1_.symm; have f5_ := f3_.symm; clear f1_ f2_ f3_; subst f4_; subst f5_))
  refine hK.out _ _ ⟨(blk_cell BK115.out 0).trans rfl, (blk_cell BK115.out 1).trans rfl, (blk_cell BK115.out 2).trans rfl⟩ (fun hHeld => ?_)
  clear hK K
  refine norm_ (a' := ?_) ?_ ?_
  rotate_left
  ·show Act.put _ (some 43) _ = _
   simp only [Act.put, List.setIfInBounds_toArray, List.set_cons_zero, List.set_cons_succ, i64_w, i32_w]
   rfl
  refine one_ (i := 6) (N := some 44) (bz 8 127) rfl rfl (one_of HT_.out (by kernel_rfl)) (by decide) (fun K hK => ?_)
  refine goes_ Tryd.func47 (by kernel_rfl) rfl #[.int .i64 8, .agg #[.int .i64 t74, .int .i64 t142, .slice Ao85 t143.length co85], .agg #[.int .i64 t75, .int .i64 t145, .slice Ao86 t146.length co86]] (by rfl) rfl rfl ab1_ ?_
  with_reducible refine (spec_l4Both.calls 8 t74 t142 (fun k_ => (((w.heap.size ≤ k_) ∧ (k_ ≠ gb103 ∧ (k_ ≠ gb115 ∧ k_ ≠ g))) ∧ some k_ ≠ (.slice Ao86 t146.length co86 : Value).ownBlock)) _ _ t143 t75 t145 (fun k_ => ((w.heap.size ≤ k_) ∧ (some k_ ≠ (.slice Ao16 t100.length co16 : Value).ownBlock ∧ (some k_ ≠ (.slice Ao82 t139.length co82 : Value).ownBlock ∧ (some k_ ≠ (.slice Ao85 t143.length co85 : Value).ownBlock ∧ (k_ ≠ gb103 ∧ (k_ ≠ gb115 ∧ k_ ≠ g))))))) _ _ t146 t76 t149 t150 _ ?side1 ?side2 A70.out).mono ?_
  (case side1 => exact Kd.N_V (HO155.out))
  (case side2 => exact Kd.N_V (HO157.out))
  rintro e w87 ⟨v158, rfl, ho0, hb⟩
  refine ⟨_, rfl, ?_⟩
  replace HO105 := am (Kd.N_elder' (aN_ HO105.out) (by first | exact Kd.N_base ho0 | exact Kd.N_base (Kd.R_N ho0)) hb)
  replace HO153 := am (Kd.N_elder' (aN_ HO153.out) (by first | exact Kd.N_base ho0 | exact Kd.N_base (Kd.R_N ho0)) hb)
  replace HO155 := am (Kd.N_elder' (aN_ HO155.out) (by first | exact Kd.N_base ho0 | exact Kd.N_base (Kd.R_N ho0)) hb)
  replace HO157 := am (Kd.N_elder' (aN_ HO157.out) (by first | exact Kd.N_base ho0 | exact Kd.N_base (Kd.R_N ho0)) hb)
  have HO159 := am (Kd.N_lower (Kd.N_mono (ok' := fun k_ => (w.heap.size ≤ k_) ∧ k_ ≠ gb103 ∧ k_ ≠ gb115 ∧ k_ ≠ g) ho0 (fun k_ hk_ => ⟨Or.elim hk_ (fun hs_ => Or.elim hs_ (fun hs_ => hs_.1.1) (fun hs_ => hs_.1)) (fun hn_ => (Nat.le_trans (keep_size (w := w) (g := g) (row := none) ab3_) hn_)), Or.elim hk_ (fun hs_ => Or.elim hs_ (fun hs_ => hs_.1.2.1) (fun hs_ => hs_.2.2.2.2.1)) (fun hn_ => (frb_ BK103.out k_ hn_)), Or.elim hk_ (fun hs_ => Or.elim hs_ (fun hs_ => hs_.1.2.2.1) (fun hs_ => hs_.2.2.2.2.2.1)) (fun hn_ => (frb_ BK115.out k_ hn_)), Or.elim hk_ (fun hs_ => Or.elim hs_ (fun hs_ => hs_.1.2.2.2) (fun hs_ => hs_.2.2.2.2.2.2)) (fun hn_ => (IsS65.fresh ab4_ k_ hn_))⟩)) (keep_size (w := w) (g := g) (row := none) ab3_))
  replace BK103 := am (bbl_ BK103.out hb)
  replace BK115 := am (bbl_ BK115.out hb)
  replace HK := am (KeepBut.trans ab3_ (KeepBut.of_below hb g none) (.inl rfl))
  replace HB := am (below_step ab5_ hb)
  replace HI0 := am (IsS65.below ab4_ hb)
  (try clear hb)
  (try clear hb2)
  (try clear hk)
  (try clear hi)
  (try clear ho0)
  obtain ⟨Ao90, co90, eo90⟩ := Kd.N_slice HO159.out
  (first | subst eo90 | (injection eo90 with f1_ f2_ f3_; have f4_ := f1_.symm; have f5_ := f3_.symm; clear f1_ f2_ f3_; subst f4_; subst f5_))
  refine hK.out _ _ ⟨(blk_cell BK115.out 0).trans rfl, (blk_cell BK115.out 1).trans rfl, (blk_cell BK115.out 2).trans rfl⟩ (fun hHeld => ?_)
  clear hK K
  refine norm_ (a' := ?_) ?_ ?_
  rotate_left
  ·show Act.put _ (some 44) _ = _
   simp only [Act.put, List.setIfInBounds_toArray, List.set_cons_zero, List.set_cons_succ, i64_w, i32_w]
   rfl
  refine one_ (i := 7) (N := none) (bz 8 255) rfl rfl (one_of HT_.out (by kernel_rfl)) (by decide) (fun K hK => ?_)
  have hs88 : w87.cell? ⟨gb103, 0, none⟩ = some (.int .i64 0) := (blk_cell BK103.out 0).trans rfl
  have hfs88 := blk_frozen BK103.out 0
  have hns88_1 := NB115_103.out
  have hms88_1 := NB103_115.out
  have hs89 : w87.cell? ⟨gb103, 1, none⟩ = some (.int .i64 0) := (blk_cell BK103.out 1).trans rfl
  have hfs89 := blk_frozen BK103.out 1
  have hns89_1 := NB115_103.out
  have hms89_1 := NB103_115.out
  have hs91 : w87.cell? ⟨gb103, 2, none⟩ = some (.slice none 0 0) := (blk_cell BK103.out 2).trans rfl
  have hfs91 := blk_frozen BK103.out 2
  have hns91_1 := NB115_103.out
  have hms91_1 := NB103_115.out
  refine skip_ (w1 := ?_) (by rfl) rfl ?_ ?_
  rotate_left
  ·go_simp
   rfl
  refine hK.out _ _ ⟨((cell_far (p := ⟨gb103, _, none⟩) NB115_103.out _).trans (((cell_far (p := ⟨gb103, _, none⟩) NB115_103.out _).trans (((cell_far (p := ⟨gb103, _, none⟩) NB115_103.out _).trans (hHeld.1)))))), ((cell_far (p := ⟨gb103, _, none⟩) NB115_103.out _).trans (((cell_far (p := ⟨gb103, _, none⟩) NB115_103.out _).trans (((cell_far (p := ⟨gb103, _, none⟩) NB115_103.out _).trans (hHeld.2.1)))))), ((cell_far (p := ⟨gb103, _, none⟩) NB115_103.out _).trans (((cell_far (p := ⟨gb103, _, none⟩) NB115_103.out _).trans (((cell_far (p := ⟨gb103, _, none⟩) NB115_103.out _).trans (hHeld.2.2))))))⟩ (fun hHeld => ?_)
  clear hK K
  refine done_ (done_of HT_.out (by kernel_rfl)) ?_
  try go_wp2
  refine bodyPost_ret (results_cell_row rfl _ _ gb103 29 #[.int .i64 t76, .int .i64 t149, .slice Ao90 t150.length co90] (0, 0) _ rfl (blk_put (blk_put (blk_put BK103.out 0 _ rfl) 1 _ rfl) 2 _ rfl) Tryd.underlying29 rfl (by kernel_rfl)) rfl ?_
  exact ⟨_, ab16_, aNw_ (Kd.N_mono (Kd.N_far (p := ⟨gb103, 2, none⟩) (Kd.N_far (p := ⟨gb103, 1, none⟩) (Kd.N_far (p := ⟨gb103, 0, none⟩) (Kd.N_mono HO159.out (fun k_ hk => (⟨hk, hk.2.1⟩ : _ ∧ k_ ≠ gb103))) (fun _ hk => hk.2) (.int .i64 t76)) (fun _ hk => hk.2) (.int .i64 t149)) (fun _ hk => hk.2) (.slice Ao90 t150.length co90)) (fun _ hk => hk.1.1)), ab4_, ab5_, ab3_⟩
 rw [if_neg c66] at H
 have c66b0 : (t53 == 3) = false := beq_eq_false_iff_ne.mpr c66
 have c66b1 : (t53 != 3) = true := bne_iff_ne.mpr c66
 by_cases c92 : t53 = 4
 ·rw [if_pos c92] at H
  have c92b0 : (t53 == 4) = true := beq_iff_eq.mpr c92
  have c92b1 : (t53 != 4) = false := bne_eq_false_iff_eq.mpr c92
  clear c92
  obtain ⟨⟨t77, t160⟩, A161, H⟩ := bsm H
  (try dsimp only at H)
  have A93 := am A161
  clear A161
  obtain ⟨⟨t78, t162, t163, t164⟩, A165, H⟩ := bsm H
  (try dsimp only at H)
  have A94 := am A165
  clear A165
  obtain ⟨⟨t79, t166, t167⟩, A168, H⟩ := bsm H
  (try dsimp only at H)
  have A95 := am A168
  clear A168
  obtain ⟨⟨t97, t169, t170⟩, A171, H⟩ := bsm H
  (try dsimp only at H)
  have A96 := am A171
  clear A171
  simp only [Option.some.injEq, Prod.mk.injEq] at H
  obtain ⟨rfl, rfl, rfl, rfl⟩ := H
  go_wp2_with (first | ((with_reducible refine gate_callee (f := 48) rfl ?_); refine gl_ 48 Tryd.func48 #[.pointer (some ⟨g, 0, none⟩)] ?_; (with_reducible refine (spec_l91Op.calls k g s0_0 t102 t77 t160 w0 _ ?side1 ?side2 A93.out).mono ?_); (case side1 => exact ab4_); (case side2 => exact ab5_); rintro e w106 ⟨rfl, hi, hb, hk⟩; refine ⟨_, rfl, ?_⟩; replace BK103 := am (KeepBut.blk hk (g' := gb103) (o := .cells #[.int .i64 0, .int .i64 0, .slice none 0 0] 29 (0, 0)) (aG_ BK103.out) NB103_0.out (by simp)); replace HO105 := am (Kd.N_mono (Kd.N_keep (Kd.N_mono (ok := fun k_ => ((((w.heap.size ≤ k_)) ∧ (k_ ≠ gb103 ∧ k_ ≠ g)) ∧ k_ ≠ gb115)) (aN_ HO105.out) (fun k_ hk_ => (⟨hk_, hk_.1.2.2⟩ : _ ∧ k_ ≠ g))) hk (fun _ h => h.2)) (fun _ h => h.1)); replace BK115 := am (KeepBut.blk hk (g' := gb115) (o := .cells #[.int .i64 t37, .int .i64 t99, .slice Ao16 t100.length co16] 29 (0, 0)) (aG_ BK115.out) NB115_0.out (by simp)); replace HK := am (KeepBut.trans ab3_ hk (.inl rfl)); replace HB := am (hb); replace HI0 := am (hi); (try clear hb); (try clear hk); (try clear hi)) | ((with_reducible refine gate_callee (f := 44) rfl ?_); refine gl_ 50 Tryd.func44 #[.pointer (some ⟨g, 0, none⟩), .int .i64 4] ?_; (with_reducible refine (spec_l91Expr.calls k g s0_0 t160 4 t78 t162 t163 t164 w0 _ ?side1 ?side2 A94.out).mono ?_); (case side1 => exact ab4_); (case side2 => exact ab5_); rintro e w107 ⟨v172, rfl, ho0, hi, hb, hk⟩; refine ⟨_, rfl, ?_⟩; have HO173 := am (Kd.N_lower (Kd.N_mono (ok' := fun k_ => (w.heap.size ≤ k_) ∧ some k_ ≠ (.slice Ao16 t100.length co16 : Value).ownBlock ∧ k_ ≠ gb103 ∧ k_ ≠ gb115 ∧ k_ ≠ g) ho0 (fun k_ hk_ => ⟨(Nat.le_trans (keep_size (w := w) (g := g) (row := none) ab3_) hk_), (Kd.fresh' (Kd.N_lt (aN_ HO105.out)) k_ hk_), (frb_ BK103.out k_ hk_), (frb_ BK115.out k_ hk_), (IsS65.fresh ab4_ k_ hk_)⟩)) (keep_size (w := w) (g := g) (row := none) ab3_)); replace BK103 := am (KeepBut.blk hk (g' := gb103) (o := .cells #[.int .i64 0, .int .i64 0, .slice none 0 0] 29 (0, 0)) (aG_ BK103.out) NB103_0.out (by simp)); replace HO105 := am (Kd.N_mono (Kd.N_told (Kd.N_oldK (Kd.N_mono (ok := fun k_ => ((((w.heap.size ≤ k_)) ∧ (k_ ≠ gb103 ∧ k_ ≠ g)) ∧ k_ ≠ gb115)) (aN_ HO105.out) (fun k_ hk_ => (⟨hk_, hk_.1.2.2⟩ : _ ∧ k_ ≠ g))) hk) (by first | exact Kd.N_base ho0 | exact Kd.N_base (Kd.R_N ho0))) (fun _ h_ => h_.1)); replace BK115 := am (KeepBut.blk hk (g' := gb115) (o := .cells #[.int .i64 t37, .int .i64 t99, .slice Ao16 t100.length co16] 29 (0, 0)) (aG_ BK115.out) NB115_0.out (by simp)); replace HK := am (KeepBut.trans ab3_ hk (.inl rfl)); replace HB := am (hb); replace HI0 := am (hi); (try clear hb); (try clear hk); (try clear hi); (try clear ho0)) | ((with_reducible refine gate_callee (f := 49) rfl ?_); refine gl_ 51 Tryd.func49 #[.int .i64 13, .int .i64 4] ?_; (with_reducible refine (spec_l4Leaf.calls 13 4 t79 t166 t167 _ A95.out).mono ?_); rintro e w108 ⟨v174, rfl, ho0, hb⟩; refine ⟨_, rfl, ?_⟩; have HO175 := am (Kd.N_lower (Kd.N_mono (ok' := fun k_ => (w.heap.size ≤ k_) ∧ some k_ ≠ (.slice Ao16 t100.length co16 : Value).ownBlock ∧ some k_ ≠ (v172 : Value).ownBlock ∧ k_ ≠ gb103 ∧ k_ ≠ gb115 ∧ k_ ≠ g) (Kd.R_N (Kd.R_bound ho0)) (fun k_ hk_ => ⟨(Nat.le_trans (keep_size (w := w) (g := g) (row := none) ab3_) hk_.2.1), (Kd.fresh' (Kd.N_lt (aN_ HO105.out)) k_ hk_.2.1), (Kd.fresh' (Kd.N_lt (aN_ HO173.out)) k_ hk_.2.1), (frb_ BK103.out k_ hk_.2.1), (frb_ BK115.out k_ hk_.2.1), (IsS65.fresh ab4_ k_ hk_.2.1)⟩)) (keep_size (w := w) (g := g) (row := none) ab3_)); replace HO105 := am (Kd.N_elder' (aN_ HO105.out) (by first | exact Kd.N_base ho0 | exact Kd.N_base (Kd.R_N ho0)) hb); replace HO173 := am (Kd.N_elder' (aN_ HO173.out) (by first | exact Kd.N_base ho0 | exact Kd.N_base (Kd.R_N ho0)) hb); replace BK103 := am (bbl_ BK103.out hb); replace BK115 := am (bbl_ BK115.out hb); replace HK := am (KeepBut.trans ab3_ (KeepBut.of_below hb g none) (.inl rfl)); replace HB := am (below_step ab5_ hb); replace HI0 := am (IsS65.below ab4_ hb); (try clear hb); (try clear ho0); obtain ⟨Ao176, co176, eo176⟩ := Kd.N_slice HO173.out; subst eo176; obtain ⟨Ao177, co177, eo177⟩ := Kd.N_slice HO175.out; subst eo177) | ((with_reducible refine gate_callee (f := 47) rfl ?_); refine gl_ 52 Tryd.func47 #[.int .i64 t77, .agg #[.int .i64 t78, .int .i64 t162, .slice Ao176 t163.length co176], .agg #[.int .i64 t79, .int .i64 t166, .slice Ao177 t167.length co177]] ?_; (with_reducible refine (spec_l4Both.calls t77 t78 t162 (fun k_ => (((w.heap.size ≤ k_) ∧ (some k_ ≠ (.slice Ao16 t100.length co16 : Value).ownBlock ∧ (k_ ≠ gb103 ∧ (k_ ≠ gb115 ∧ k_ ≠ g)))) ∧ some k_ ≠ (.slice Ao177 t167.length co177 : Value).ownBlock)) _ _ t163 t79 t166 (fun k_ => ((w.heap.size ≤ k_) ∧ (some k_ ≠ (.slice Ao16 t100.length co16 : Value).ownBlock ∧ (some k_ ≠ (.slice Ao176 t163.length co176 : Value).ownBlock ∧ (k_ ≠ gb103 ∧ (k_ ≠ gb115 ∧ k_ ≠ g)))))) _ _ t167 t97 t169 t170 _ ?side1 ?side2 A96.out).mono ?_); (case side1 => exact Kd.N_V (HO173.out)); (case side2 => exact Kd.N_V (HO175.out)); rintro e w111 ⟨v132, rfl, ho0, hb⟩; refine ⟨_, rfl, ?_⟩; replace HO173 := am (Kd.N_elder' (aN_ HO173.out) (by first | exact Kd.N_base ho0 | exact Kd.N_base (Kd.R_N ho0)) hb); replace HO175 := am (Kd.N_elder' (aN_ HO175.out) (by first | exact Kd.N_base ho0 | exact Kd.N_base (Kd.R_N ho0)) hb); have HO178 := am (Kd.N_lower (Kd.N_mono (ok' := fun k_ => (w.heap.size ≤ k_) ∧ some k_ ≠ (.slice Ao16 t100.length co16 : Value).ownBlock ∧ k_ ≠ gb103 ∧ k_ ≠ gb115 ∧ k_ ≠ g) ho0 (fun k_ hk_ => ⟨Or.elim hk_ (fun hs_ => Or.elim hs_ (fun hs_ => hs_.1.1) (fun hs_ => hs_.1)) (fun hn_ => (Nat.le_trans (keep_size (w := w) (g := g) (row := none) ab3_) hn_)), Or.elim hk_ (fun hs_ => Or.elim hs_ (fun hs_ => hs_.1.2.1) (fun hs_ => hs_.2.1)) (fun hn_ => (Kd.fresh' (Kd.N_lt (aN_ HO105.out)) k_ hn_)), Or.elim hk_ (fun hs_ => Or.elim hs_ (fun hs_ => hs_.1.2.2.1) (fun hs_ => hs_.2.2.2.1)) (fun hn_ => (frb_ BK103.out k_ hn_)), Or.elim hk_ (fun hs_ => Or.elim hs_ (fun hs_ => hs_.1.2.2.2.1) (fun hs_ => hs_.2.2.2.2.1)) (fun hn_ => (frb_ BK115.out k_ hn_)), Or.elim hk_ (fun hs_ => Or.elim hs_ (fun hs_ => hs_.1.2.2.2.2) (fun hs_ => hs_.2.2.2.2.2)) (fun hn_ => (IsS65.fresh ab4_ k_ hn_))⟩)) (keep_size (w := w) (g := g) (row := none) ab3_)); replace HO105 := am (Kd.N_elder' (aN_ HO105.out) (by first | exact Kd.N_base ho0 | exact Kd.N_base (Kd.R_N ho0)) hb); replace BK103 := am (bbl_ BK103.out hb); replace BK115 := am (bbl_ BK115.out hb); replace HK := am (KeepBut.trans ab3_ (KeepBut.of_below hb g none) (.inl rfl)); replace HB := am (below_step ab5_ hb); replace HI0 := am (IsS65.below ab4_ hb); (try clear hb); (try clear ho0); have hnb112 := NB103_0.out; have hnc112 := NB0_103.out; obtain ⟨hcz113_0, hcz113_1, hcz113_2, hfz113_0, hfz113_1, hfz113_2⟩ := bcf3_ BK103.out; obtain ⟨Ao179, co179, eo179⟩ := Kd.N_slice HO178.out; subst eo179))
  refine bodyPost_ret (results_cell_row rfl _ _ gb103 29 #[.int .i64 t97, .int .i64 t169, .slice Ao179 t170.length co179] (0, 0) _ rfl (blk_put (blk_put (blk_put BK103.out 0 _ rfl) 1 _ rfl) 2 _ rfl) Tryd.underlying29 rfl (by kernel_rfl)) rfl ?_
  exact ⟨_, ab16_, aNw_ (Kd.N_mono (Kd.N_far (p := ⟨gb103, 2, none⟩) (Kd.N_far (p := ⟨gb103, 1, none⟩) (Kd.N_far (p := ⟨gb103, 0, none⟩) (Kd.N_mono HO178.out (fun k_ hk => (⟨hk, hk.2.2.1⟩ : _ ∧ k_ ≠ gb103))) (fun _ hk => hk.2) (.int .i64 t97)) (fun _ hk => hk.2) (.int .i64 t169)) (fun _ hk => hk.2) (.slice Ao179 t170.length co179)) (fun _ hk => hk.1.1)), ab4_, ab5_, ab3_⟩
 rw [if_neg c92] at H
 have c92b0 : (t53 == 4) = false := beq_eq_false_iff_ne.mpr c92
 have c92b1 : (t53 != 4) = true := bne_iff_ne.mpr c92
 simp only [Option.some.injEq, Prod.mk.injEq] at H
 obtain ⟨rfl, rfl, rfl, rfl⟩ := H
 obtain ⟨hcz124_0, hcz124_1, hcz124_2, hfz124_0, hfz124_1, hfz124_2⟩ := bcf3_ BK115.out
 have hnb125 := NB103_0.out
 have hnc125 := NB0_103.out
 obtain ⟨hcz126_0, hcz126_1, hcz126_2, hfz126_0, hfz126_1, hfz126_2⟩ := bcf3_ BK103.out
 go_wp2
 refine bodyPost_ret (results_cell_row rfl _ _ gb103 29 #[.int .i64 t37, .int .i64 t99, .slice Ao16 t100.length co16] (0, 0) _ rfl (blk_put (blk_put (blk_put BK103.out 0 _ rfl) 1 _ rfl) 2 _ rfl) Tryd.underlying29 rfl (by kernel_rfl)) rfl ?_
 exact ⟨_, ab16_, aNw_ (Kd.N_mono (Kd.N_far (p := ⟨gb103, 2, none⟩) (Kd.N_far (p := ⟨gb103, 1, none⟩) (Kd.N_far (p := ⟨gb103, 0, none⟩) (Kd.N_mono HO105.out (fun k_ hk => (⟨hk, hk.1.2.1⟩ : _ ∧ k_ ≠ gb103))) (fun _ hk => hk.2) (.int .i64 t37)) (fun _ hk => hk.2) (.int .i64 t99)) (fun _ hk => hk.2) (.slice Ao16 t100.length co16)) (fun _ hk => hk.1.1.1)), ab4_, ab5_, ab3_⟩
theorem spec_l6Open.calls (A0 : Option Addr) (c0 : Nat) (l0 : List Int) (r1 : List Int) (r2 : Int) (w0 w : World) (hB : Below w0.heap.size w0 w) (hr0 : Kd.C (Kd.int .u8) w0 A0 l0.length l0) (hc0 : l0.length ≤ c0) (h : spec_l6Open.f l0 = some (r1, r2)) :
  Calls Tryd.prog 25 #[.slice A0 l0.length c0] w fun e w' => ∃ g_ : Nat, e = .returned (.pointer (some ⟨g_, 0, none⟩)) ∧ IsS65 w0 w' g_ r1 r2 ∧ Below w0.heap.size w0 w' ∧ Below w.heap.size w w' := by
 have hu65 := Tryd.underlying65
 have HR0 := am hr0
 have HC0 := am hc0
 clear hr0 hc0
 have HBW := am (Below.refl w.heap.size w)
 have HW0 := am hB.size
 have HB := am hB
 clear hB
 have H : (if (l0.length : Int) > 2000 then (if 2000 ≤ (l0.length : Int) then (some (l0.take 2000, 0)) else (none)) else (some (l0, 0))) = some (r1, r2) := h
 clear h
 by_cases c2 : (l0.length : Int) > 2000
 ·rw [if_pos c2] at H
  have c2b0 : decide (2000 < (l0.length : Int)) = true := decide_eq_true c2
  have c2b1 : decide (2000 < l0.length) = true := decide_eq_true (by omega)
  clear c2
  by_cases c3 : 2000 ≤ (l0.length : Int)
  ·rw [if_pos c3] at H
   have c3b0 := eq_true c3
   have c3b1 : decide (2000 ≤ (l0.length : Int)) = true := decide_eq_true c3
   clear c3
   simp only [Option.some.injEq, Prod.mk.injEq] at H
   obtain ⟨rfl, rfl⟩ := H
   obtain ⟨i04, hi04, _, hsz4, _⟩ := info_parts info5
   obtain ⟨hcut4, hA4, hC4⟩ := print_take_of (P := Tryd.prog) (Value.int .u8) 0 33 5 .i64 Tryd.underlying33 hi04 hsz4 A0 c0 l0 2000 (by omega) (of_decide_eq_true asm_) HC0.out
   have HR20 := am (Kd.C_of_reads (h1 := fun _ => rfl) (hA4 _ (Kd.reads_of_C HR0.out)))
   have HC20 := am hC4
   clear hA4 hC4 hi04 hsz4
   go_enter Tryd.func25, Tryd.ntmps25
   go_wp2_with (first | ((with_reducible refine gate_dst (N := 10) rfl ?_); refine box_event rfl (N := 10) rfl (cs := #[.slice A0 (l0.take 2000).length c0, .int .i64 0]) (t := 65) rn_ ?_; intro gb21 hg w5 hbox hb; replace HB := am (below_step ab2_ hb); have BK21 := am (hbox); have GW21 := am ((by rw [hg]; exact (below_size ab51_) : w.heap.size ≤ gb21)); have GE21 := am ((Nat.le_trans HW0.out (by rw [hg]; exact (below_size ab51_) : w.heap.size ≤ gb21) : w0.heap.size ≤ gb21)); replace HBW := am (below_step HBW.out hb); clear hb hbox hg))
   go_ret
   exact ⟨_, rfl, (show IsS65 w0 _ gb21 (l0.take 2000) 0 from ⟨_, _, by (with_reducible repeat (first | refine blk_drewN ?_ _ | refine blk_drew ?_ | refine blk_alloc ?_ _)); exact BK21.out, GE21.out, HR20.out⟩), ab18_, by repeat (first | (with_reducible first | exact HBW.out | apply below_alloc | apply pw_below_drewN | apply below_drew1 | refine below_set ?_ GW21.out) | exact HBW.out)⟩
  rw [if_neg c3] at H
  exact absurd H (by simp)
 rw [if_neg c2] at H
 have c2b0 : decide (2000 < (l0.length : Int)) = false := decide_eq_false c2
 have c2b1 : decide (2000 < l0.length) = false := decide_eq_false (by omega)
 clear c2
 simp only [Option.some.injEq, Prod.mk.injEq] at H
 obtain ⟨rfl, rfl⟩ := H
 go_enter Tryd.func25, Tryd.ntmps25
 go_wp2_with (first | ((with_reducible refine gate_dst (N := 10) rfl ?_); refine box_event rfl (N := 10) rfl (cs := #[.slice A0 l0.length c0, .int .i64 0]) (t := 65) rn_ ?_; intro gb22 hg w6 hbox hb; replace HB := am (below_step ab2_ hb); have BK22 := am (hbox); have GW22 := am ((by rw [hg]; exact (below_size ab51_) : w.heap.size ≤ gb22)); have GE22 := am ((Nat.le_trans HW0.out (by rw [hg]; exact (below_size ab51_) : w.heap.size ≤ gb22) : w0.heap.size ≤ gb22)); replace HBW := am (below_step HBW.out hb); clear hb hbox hg))
 go_ret
 exact ⟨_, rfl, (show IsS65 w0 _ gb22 l0 0 from ⟨_, _, by (with_reducible repeat (first | refine blk_drewN ?_ _ | refine blk_drew ?_ | refine blk_alloc ?_ _)); exact BK22.out, GE22.out, HR0.out⟩), ab36_, by repeat (first | (with_reducible first | exact HBW.out | apply below_alloc | apply pw_below_drewN | apply below_drew1 | refine below_set ?_ GW22.out) | exact HBW.out)⟩
theorem spec_DrawExprText.mono : ∀ a0 k, LeO (spec_DrawExprText.f k a0) (spec_DrawExprText.f (k + 1) a0) := by
 intro a0 k
 unfold spec_DrawExprText.f
 have m0 := @spec_l91Spoilt.mono
 exact mo_
theorem spec_DrawExprText.calls (k : Nat) (A0 : Option Addr) (c0 : Nat) (l0 : List Int) (r1 : Int) (r2 : Int) (r3 : List (S29)) (w : World) (hr0 : Kd.C (Kd.int .u8) w A0 l0.length l0) (hc0 : l0.length ≤ c0) (h : spec_DrawExprText.f k l0 = some (r1, r2, r3)) :
  Calls Tryd.prog 11 #[.slice A0 l0.length c0] w fun e w' => ∃ v2_ : Value, e = .returned (.agg #[.int .i64 r1, .int .i64 r2, v2_]) ∧ Kd.N k29 29 w' w.heap.size (fun k_ => (w.heap.size ≤ k_)) v2_ r3 ∧ Below w.heap.size w w' := by
 have hu29 := Tryd.underlying29
 have HR0 := am hr0
 have HC0 := am hc0
 clear hr0 hc0
 have HB := am (Below.refl w.heap.size w)
 have H : ((spec_l6Open.f l0).bind fun bt21 => ((spec_l91Spoilt.f k bt21.1 bt21.2).bind fun bt22 => (some (bt22.1, bt22.2.1, bt22.2.2.1)))) = some (r1, r2, r3) := h
 clear h
 obtain ⟨⟨t21, t23⟩, A2, H⟩ := bsa H
 (try dsimp only at H)
 obtain ⟨⟨t22, t26, t27, t28⟩, A3, H⟩ := bsa H
 (try dsimp only at H)
 simp only [Option.some.injEq, Prod.mk.injEq] at H
 obtain ⟨rfl, rfl, rfl⟩ := H
 go_enter Tryd.func11, Tryd.ntmps11
 go_wp2_with (first | ((with_reducible refine gate_dst (N := 2) rfl ?_); refine box_event rfl (N := 2) rfl (cs := #[.int .i64 0, .int .i64 0, .slice none 0 0]) (t := 29) rn_ ?_; intro gb31 hg w4 hbox hb; have BK31 := am (hbox); have GW31 := am ((by rw [hg]; exact (below_size ab2_) : w.heap.size ≤ gb31)); have GE31 := am ((by rw [hg]; exact (below_size ab2_) : w.heap.size ≤ gb31)); replace HB := am (below_step ab2_ hb); clear hb hbox hg) | ((with_reducible refine gate_callee (f := 25) rfl ?_); refine gl_ 4 Tryd.func25 #[.slice A0 l0.length c0] ?_; (with_reducible refine (spec_l6Open.calls _ _ l0 t21 t23 w _ ?side1 HR0.out HC0.out A2.out).mono ?_); (case side1 => repeat (first | (with_reducible first | exact HB.out | apply below_alloc | apply pw_below_drewN | apply below_drew1 | refine below_set ?_ GE31.out) | exact HB.out)); rintro e w5 ⟨g32, rfl, hi, hb, hb2⟩; refine ⟨_, rfl, ?_⟩; replace HB := am (hb); have HI32 := am (hi); have NB32_31 := am (IsS65.ne_blk hi (bbl_ BK31.out hb2) (by decide)); have NB31_32 := am (Ne.symm (IsS65.ne_blk hi (bbl_ BK31.out hb2) (by decide))); replace BK31 := am (bbl_ BK31.out hb2); (try clear hb); (try clear hb2); (try clear hi)) | ((with_reducible refine gate_callee (f := 24) rfl ?_); refine gl_ 5 Tryd.func24 #[.pointer (some ⟨g32, 0, none⟩)] ?_; (with_reducible refine (spec_l91Spoilt.calls k g32 t21 t23 t22 t26 t27 t28 w _ ?side1 ?side2 A3.out).mono ?_); (case side1 => exact ab53_); (case side2 => exact ab44_); rintro e w6 ⟨v33, rfl, ho0, hi, hb, hk⟩; refine ⟨_, rfl, ?_⟩; have HO34 := am (Kd.N_lower (Kd.N_mono (ok' := fun k_ => (w.heap.size ≤ k_) ∧ k_ ≠ gb31 ∧ k_ ≠ g32) ho0 (fun k_ hk_ => ⟨(Nat.le_trans (below_size ab44_) hk_), (frb_ BK31.out k_ hk_), (IsS65.fresh ab53_ k_ hk_)⟩)) (below_size ab44_)); replace BK31 := am (KeepBut.blk hk (g' := gb31) (o := .cells #[.int .i64 0, .int .i64 0, .slice none 0 0] 29 (0, 0)) (aG_ BK31.out) NB31_32.out (by simp)); replace HB := am (hb); replace HI32 := am (hi); (try clear hb); (try clear hk); (try clear hi); (try clear ho0); have hnb7 := NB31_32.out; have hnc7 := NB32_31.out; obtain ⟨hcz8_0, hcz8_1, hcz8_2, hfz8_0, hfz8_1, hfz8_2⟩ := bcf3_ BK31.out; obtain ⟨Ao9, co9, eo9⟩ := Kd.N_slice HO34.out; subst eo9))
 refine bodyPost_ret (results_cell_row rfl _ _ gb31 29 #[.int .i64 t22, .int .i64 t26, .slice Ao9 t27.length co9] (0, 0) _ rfl (blk_put (blk_put (blk_put BK31.out 0 _ rfl) 1 _ rfl) 2 _ rfl) Tryd.underlying29 rfl (by kernel_rfl)) rfl ?_
 exact ⟨_, ab16_, aNw_ (Kd.N_mono (Kd.N_far (p := ⟨gb31, 2, none⟩) (Kd.N_far (p := ⟨gb31, 1, none⟩) (Kd.N_far (p := ⟨gb31, 0, none⟩) (Kd.N_mono HO34.out (fun k_ hk => (⟨hk, hk.2.1⟩ : _ ∧ k_ ≠ gb31))) (fun _ hk => hk.2) (.int .i64 t22)) (fun _ hk => hk.2) (.int .i64 t26)) (fun _ hk => hk.2) (.slice Ao9 t27.length co9)) (fun _ hk => hk.1.1)), ab44_⟩
theorem laws_bytesOf.mono_l : ∀ k, (∀ y0 y1 y2 y3, LeO (laws_bytesOf.l0 k y0 y1 y2 y3) (laws_bytesOf.l0 (k + 1) y0 y1 y2 y3))
 | 0 => fun _ _ _ _ r h => by simp [laws_bytesOf.l0] at h
 | k + 1 => by
  have ih0 := laws_bytesOf.mono_l k
  ·intro y0 y1 y2 y3
   unfold laws_bytesOf.l0
   exact mo_
theorem laws_bytesOf.mono : ∀ a0 a1 k, LeO (laws_bytesOf.f k a0 a1) (laws_bytesOf.f (k + 1) a0 a1) := by
 intro a0 a1 k
 have ih0 := laws_bytesOf.mono_l k
 unfold laws_bytesOf.f
 exact mo_
theorem laws_bytesOf.calls (k : Nat) (a0 : ByteArray) (a1 : Int) (r : Int) (w : World) (h : laws_bytesOf.f k a0 a1 = some r) :
  Calls Tryd.prog 12 #[.string a0, .int .u8 a1] w fun e w' => e = .returned (.int .i64 r) ∧ Drawn0 w w' := by
 have H : (laws_bytesOf.l0 k a0 a1 0 0) = some r := h
 clear h
 have H' := am H
 clear H
 go_enter Tryd.func12, Tryd.ntmps12
 go_wp2
 go_loopg [5, 6] k (fun kq v5 v6 w' => ∃ (x5_1 : Int) (x6_1 : Int), v5 = .int .i64 x5_1 ∧ v6 = .int .i64 x6_1 ∧ Aside0 (laws_bytesOf.l0 kq a0 a1 x5_1 x6_1 = some r) ∧ Aside0 (kq ≤ k) ∧ Drawn0 w w')
 case atStart => exact ⟨(0), (0), sd_, sd_, H', ⟨Nat.le_refl _⟩, ab6_⟩
 case round =>
  clear H'
  obtain ⟨x5_1, x6_1, rfl, rfl, HA, HK1, ⟨m1, rfl⟩⟩ := hrel
  cases gk with
  | zero => exact absurd HA.out (by simp [laws_bytesOf.l0])
  | succ k1 =>
   have H := HA.out
   clear HA
   simp only [laws_bytesOf.l0] at H
   by_cases c3 : x6_1 < (a0.size : Int)
   ·rw [if_pos c3] at H
    have c3b0 : decide (x6_1 < (a0.size : Int)) = true := decide_eq_true c3
    clear c3
    by_cases c4 : 0 ≤ x6_1
    ·rw [if_pos c4] at H
     have c4b0 : decide (0 ≤ x6_1) = true := decide_eq_true c4
     clear c4
     by_cases c6 : (bt a0 x6_1) = a1
     ·rw [if_pos c6] at H
      have c6b0 : ((bt a0 x6_1) == a1) = true := beq_iff_eq.mpr c6
      have c6b1 : ((bt a0 x6_1) != a1) = false := bne_eq_false_iff_eq.mpr c6
      clear c6
      have H' := am H
      clear H
      have p5 : 0 ≤ (x6_1 : Int) := of_decide_eq_true asm_
      have q5 : x6_1 < (a0.size : Int) := of_decide_eq_true asm_
      have hx5 := bt_at a0 x6_1
      replace p5 := eq_true p5
      replace q5 := eq_true q5
      go_wp2
      go_roundg k1
      case measure => have := HK1.out; omega
      case rel => exact ⟨(wrap64 (x5_1 + 1)), (wrap64 (x6_1 + 1)), sd_, sd_, H', ⟨by have := HK1.out; omega⟩, ab6_⟩
     rw [if_neg c6] at H
     have c6b0 : ((bt a0 x6_1) == a1) = false := beq_eq_false_iff_ne.mpr c6
     have c6b1 : ((bt a0 x6_1) != a1) = true := bne_iff_ne.mpr c6
     have H' := am H
     clear H
     have p5 : 0 ≤ (x6_1 : Int) := of_decide_eq_true asm_
     have q5 : x6_1 < (a0.size : Int) := of_decide_eq_true asm_
     have hx5 := bt_at a0 x6_1
     replace p5 := eq_true p5
     replace q5 := eq_true q5
     go_wp2
     go_roundg k1
     case measure => have := HK1.out; omega
     case rel => exact ⟨(x5_1), (wrap64 (x6_1 + 1)), sd_, sd_, H', ⟨by have := HK1.out; omega⟩, ab6_⟩
    rw [if_neg c4] at H
    exact absurd H (by simp)
   rw [if_neg c3] at H
   have c3b0 : decide (x6_1 < (a0.size : Int)) = false := decide_eq_false c3
   clear c3
   obtain rfl := Option.some.inj H
   go_wp2
   go_ret
   exact ⟨sd_, ab6_⟩
theorem impl_Tokens.mono_l : ∀ k, (∀ y0 y1 y2, LeO (impl_Tokens.l0 k y0 y1 y2) (impl_Tokens.l0 (k + 1) y0 y1 y2)) ∧ (∀ y0 y1 y2 y3, LeO (impl_Tokens.j1 k y0 y1 y2 y3) (impl_Tokens.j1 (k + 1) y0 y1 y2 y3))
 | 0 => ⟨fun _ _ _ r h => by simp [impl_Tokens.l0] at h, fun _ _ _ _ r h => by simp [impl_Tokens.j1] at h⟩
 | k + 1 => by
  obtain ⟨ih0, ih1⟩ := impl_Tokens.mono_l k
  refine ⟨?_, ?_⟩
  ·intro y0 y1 y2
   unfold impl_Tokens.l0
   have m0 := @impl_tokenLength.mono
   exact mo_
  ·intro y0 y1 y2 y3
   unfold impl_Tokens.j1
   have m0 := @impl_tokenLength.mono
   exact mo_
theorem impl_Tokens.mono : ∀ a0 k, LeO (impl_Tokens.f k a0) (impl_Tokens.f (k + 1) a0) := by
 intro a0 k
 obtain ⟨ih0, ih1⟩ := impl_Tokens.mono_l k
 unfold impl_Tokens.f
 have m0 := @impl_tokenLength.mono
 exact mo_
theorem impl_Tokens.calls (k : Nat) (a0 : ByteArray) (r1 : List ByteArray) (r2 : Bool) (w : World) (h : impl_Tokens.f k a0 = some (r1, r2)) :
  Calls Tryd.prog 13 #[.string a0] w fun e w' => ∃ v0_ : Value, e = .returned (.tuple #[v0_, .bool r2]) ∧ Kd.R Kd.string 9 w' w.heap.size (fun _ => True) v0_ r1 ∧ Below w.heap.size w w' := by
 have HB := am (Below.refl w.heap.size w)
 have H : (if (a0.size : Int) > 20000 then (some (([] : List ByteArray), false)) else (impl_Tokens.l0 k a0 ([] : List ByteArray) 0)) = some (r1, r2) := h
 clear h
 by_cases c2 : (a0.size : Int) > 20000
 ·rw [if_pos c2] at H
  have c2b0 : decide (20000 < (a0.size : Int)) = true := decide_eq_true c2
  have c2b1 : decide (20000 < a0.size) = true := decide_eq_true (by omega)
  clear c2
  simp only [Option.some.injEq, Prod.mk.injEq] at H
  obtain ⟨rfl, rfl⟩ := H
  go_enter Tryd.func13, Tryd.ntmps13
  go_wp2
  go_ret2
  exact ⟨_, ab16_, by first | exact Kd.R_nil _ _ _ _ _ | exact Kd.N_nil _ _ _ _ _ | exact Kd.V_nil _ _ _ _ _ | exact Kd.Q_nil _ _ _ _ _ | exact Kd.S_nil _ _ _ _ _, ab2_⟩
 rw [if_neg c2] at H
 have c2b0 : decide (20000 < (a0.size : Int)) = false := decide_eq_false c2
 have c2b1 : decide (20000 < a0.size) = false := decide_eq_false (by omega)
 clear c2
 have H' := am H
 clear H
 go_enter Tryd.func13, Tryd.ntmps13
 go_wp2
 go_loopg [4, 5] k (fun kq v4 v5 w' => ∃ (x4_1 : List ByteArray) (x5_1 : Int), v5 = .int .i64 x5_1 ∧ Aside0 (impl_Tokens.l0 kq a0 x4_1 x5_1 = some (r1, r2)) ∧ Aside0 (kq ≤ k) ∧ Aside0 (Kd.R Kd.string 9 w' w.heap.size (fun _ => True) v4 x4_1) ∧ Aside0 (Below w.heap.size w w'))
 case atStart => exact ⟨(([] : List ByteArray)), (0), sd_, H', ⟨Nat.le_refl _⟩, ⟨by first | exact Kd.R_nil _ _ _ _ _ | exact Kd.N_nil _ _ _ _ _ | exact Kd.V_nil _ _ _ _ _ | exact Kd.Q_nil _ _ _ _ _ | exact Kd.S_nil _ _ _ _ _⟩, ⟨ab2_⟩⟩
 case round =>
  clear H'
  try clear c2
  try clear c2b0
  try clear c2b1
  obtain ⟨x4_1, x5_1, rfl, HA, HK1, HO_4, HB⟩ := hrel
  cases gk with
  | zero => exact absurd HA.out (by simp [impl_Tokens.l0])
  | succ k1 =>
   have H := HA.out
   clear HA
   simp only [impl_Tokens.l0] at H
   by_cases c3 : x5_1 < (a0.size : Int)
   ·rw [if_pos c3] at H
    have c3b0 : decide (x5_1 < (a0.size : Int)) = true := decide_eq_true c3
    clear c3
    have HC4 := am H
    clear H
    go_upto_region 6 with (fail)
    go_cut [23] (fun v23 wc => ∃ (kq : Nat) (x23_3 : Bool), v23 = .bool x23_3 ∧ Aside0 (impl_Tokens.j1 kq a0 x4_1 x5_1 x23_3 = some (r1, r2)) ∧ Aside0 (kq ≤ k1) ∧ Aside0 (Kd.R Kd.string 9 wc w.heap.size (fun _ => True) u4 x4_1) ∧ Aside0 (Below w.heap.size w wc))
    case first =>
     have H := HC4.out
     clear HC4
     by_cases c5 : 0 ≤ x5_1
     ·rw [if_pos c5] at H
      have c5b0 : decide (0 ≤ x5_1) = true := decide_eq_true c5
      clear c5
      (first | rw [c5b0] | (simp only [i64_w, i32_w]; rw [c5b0]) | skip)
      by_cases c7 : (bt a0 x5_1) = 32
      ·rw [if_pos c7] at H
       have c7b0 : ((bt a0 x5_1) == 32) = true := beq_iff_eq.mpr c7
       have c7b1 : ((bt a0 x5_1) != 32) = false := bne_eq_false_iff_eq.mpr c7
       clear c7
       have H' := am H
       clear H
       have p6 : 0 ≤ (x5_1 : Int) := of_decide_eq_true asm_
       have q6 : x5_1 < (a0.size : Int) := of_decide_eq_true asm_
       have hx6 := bt_at a0 x5_1
       replace p6 := eq_true p6
       replace q6 := eq_true q6
       go_wp2
       go_meet
       case rel => exact ⟨_, (true), sd_, H', ⟨by have := HK1.out; first | omega | exact Nat.le_refl _⟩, ⟨aRw_ HO_4.out⟩, ⟨ab2_⟩⟩
      rw [if_neg c7] at H
      have c7b0 : ((bt a0 x5_1) == 32) = false := beq_eq_false_iff_ne.mpr c7
      have c7b1 : ((bt a0 x5_1) != 32) = true := bne_iff_ne.mpr c7
      have H' := am H
      clear H
      have p6 : 0 ≤ (x5_1 : Int) := of_decide_eq_true asm_
      have q6 : x5_1 < (a0.size : Int) := of_decide_eq_true asm_
      have hx6 := bt_at a0 x5_1
      replace p6 := eq_true p6
      replace q6 := eq_true q6
      have p8 : 0 ≤ (x5_1 : Int) := of_decide_eq_true asm_
      have q8 : x5_1 < (a0.size : Int) := of_decide_eq_true asm_
      have hx8 := bt_at a0 x5_1
      replace p8 := eq_true p8
      replace q8 := eq_true q8
      go_wp2
      go_meet
      case rel => exact ⟨_, (((bt a0 x5_1) == 10)), sd_, H', ⟨by have := HK1.out; first | omega | exact Nat.le_refl _⟩, ⟨aRw_ HO_4.out⟩, ⟨ab2_⟩⟩
     rw [if_neg c5] at H
     exact absurd H (by simp)
    case rest =>
     clear HC4
     try clear c2
     try clear c2b0
     try clear c2b1
     try clear c3
     try clear c3b0
     obtain ⟨kq, x23_3, rfl, HA, HJ3, HO_4, HB⟩ := hcut
     cases kq with
     | zero => exact absurd HA.out (by simp [impl_Tokens.j1])
     | succ kj3 =>
      have H := HA.out
      clear HA
      simp only [impl_Tokens.j1] at H
      by_cases c9 : x23_3 = true
      ·subst c9
       rw [if_pos rfl] at H
       have H' := am H
       clear H
       go_wp2
       go_roundg kj3
       case measure => have := HK1.out; have := HJ3.out; omega
       case rel => exact ⟨(x4_1), (wrap64 (x5_1 + 1)), sd_, H', ⟨by have := HK1.out; have := HJ3.out; omega⟩, ⟨aRw_ HO_4.out⟩, ⟨ab2_⟩⟩
      replace c9 := Bool.eq_false_iff.mpr c9
      subst c9
      rw [if_neg (show ¬ (false = true) by decide)] at H
      by_cases c10 : 0 ≤ x5_1
      ·rw [if_pos c10] at H
       have c10b0 := eq_true c10
       have c10b1 : decide (0 ≤ x5_1) = true := decide_eq_true c10
       clear c10
       by_cases c11 : x5_1 ≤ (a0.size : Int)
       ·rw [if_pos c11] at H
        have c11b0 := eq_true c11
        have c11b1 : decide (x5_1 ≤ (a0.size : Int)) = true := decide_eq_true c11
        clear c11
        obtain ⟨t21, A22, H⟩ := bsm H
        (try dsimp only at H)
        have A12 := am A22
        clear A22
        by_cases c13 : t21 = 0
        ·rw [if_pos c13] at H
         have c13b0 : (t21 == 0) = true := beq_iff_eq.mpr c13
         have c13b1 : (t21 != 0) = false := bne_eq_false_iff_eq.mpr c13
         clear c13
         simp only [Option.some.injEq, Prod.mk.injEq] at H
         obtain ⟨rfl, rfl⟩ := H
         go_wp2_with (first | ((with_reducible refine gate_callee (f := 26) rfl ?_); refine gl_ 29 Tryd.func26 #[.string (a0.extract (x5_1 : Int).toNat a0.size)] ?_; (with_reducible refine (impl_tokenLength.calls kj3 (a0.extract (x5_1 : Int).toNat a0.size) t21 _ A12.out).mono ?_); rintro e w14 ⟨rfl, hb⟩; refine ⟨_, rfl, ?_⟩; replace HO_4 := am (Kd.R_below (aR_ HO_4.out) hb); replace HB := am (below_step ab2_ hb); (try clear hb)))
         go_ret2
         exact ⟨_, ab16_, by first | exact Kd.R_nil _ _ _ _ _ | exact Kd.N_nil _ _ _ _ _ | exact Kd.V_nil _ _ _ _ _ | exact Kd.Q_nil _ _ _ _ _ | exact Kd.S_nil _ _ _ _ _, ab2_⟩
        rw [if_neg c13] at H
        have c13b0 : (t21 == 0) = false := beq_eq_false_iff_ne.mpr c13
        have c13b1 : (t21 != 0) = true := bne_iff_ne.mpr c13
        have c15b0 := eq_true (of_decide_eq_true asm_ : 0 ≤ x5_1)
        by_cases c16 : x5_1 ≤ (wrap64 (x5_1 + t21))
        ·rw [if_pos c16] at H
         have c16b0 := eq_true c16
         have c16b1 : decide (x5_1 ≤ (wrap64 (x5_1 + t21))) = true := decide_eq_true c16
         by_cases c17 : (wrap64 (x5_1 + t21)) ≤ (a0.size : Int)
         ·rw [if_pos c17] at H
          have c17b0 := eq_true c17
          have c17b1 : decide ((wrap64 (x5_1 + t21)) ≤ (a0.size : Int)) = true := decide_eq_true c17
          by_cases c18 : x4_1.length < 8796093022208
          ·rw [if_pos c18] at H
           have LMc18 := am c18
           clear c18
           obtain ⟨y24, hy_⟩ : ∃ y_ : List ByteArray, y_ = (x4_1 ++ [a0.extract (x5_1 : Int).toNat ((wrap64 (x5_1 + t21)) : Int).toNat]) := ⟨_, rfl⟩
           replace H : (impl_Tokens.l0 kj3 a0 y24 (wrap64 (x5_1 + t21))) = some (r1, r2) := rx_
           have Ny24 := am hy_
           clear hy_
           have H' := am H
           clear H
           go_wp2_with (first | ((with_reducible refine gate_callee (f := 26) rfl ?_); refine gl_ 29 Tryd.func26 #[.string (a0.extract (x5_1 : Int).toNat a0.size)] ?_; (with_reducible refine (impl_tokenLength.calls kj3 (a0.extract (x5_1 : Int).toNat a0.size) t21 _ A12.out).mono ?_); rintro e w19 ⟨rfl, hb⟩; refine ⟨_, rfl, ?_⟩; replace HO_4 := am (Kd.R_below (aR_ HO_4.out) hb); replace HB := am (below_step ab2_ hb); (try clear hb)) | ((with_reducible refine gate_builtin (b := .append) (xs := #[.tmp 32, .tmp 39]) rfl ?_); at_builtin; refine Kd.R_append Kd.string (w0 := w) w.heap.size rfl (.tmp 32) (.tmp 39) 37 9 (.string ⟨#[]⟩) 16 rfl Tryd.underlying37 info9 rfl (by decide) (by omega) u4 x4_1 (a0.extract (x5_1 : Int).toNat ((wrap64 (x5_1 + t21)) : Int).toNat) [.string (a0.extract (x5_1 : Int).toNat ((wrap64 (x5_1 + t21)) : Int).toNat)] (fun _ => True) (fun _ => False) rfl rfl ?aP (fun _ hk => hk.elim) ?aF ?aO ?aB ?aS ?aL ?_; (case aP => exact rfl); (case aB => exact ab2_); (case aF => exact (fun _ _ => trivial)); (case aO => exact (aR_ HO_4.out)); (case aS => exact (below_size ab2_)); (case aL => have := LMc18.out; omega); intro v25 w20 ho hb hg hat; rw [← Ny24.out] at ho; replace HB := am (hb); have HO27 := am (ho); clear HO_4 ho hb hg hat))
           go_roundg kj3
           case measure => have := HK1.out; have := HJ3.out; omega
           case rel => exact ⟨(y24), (wrap64 (x5_1 + t21)), sd_, H', ⟨by have := HK1.out; have := HJ3.out; omega⟩, ⟨aRw_ HO27.out⟩, ⟨ab2_⟩⟩
          rw [if_neg c18] at H
          exact absurd H (by simp)
         rw [if_neg c17] at H
         exact absurd H (by simp)
        rw [if_neg c16] at H
        exact absurd H (by simp)
       rw [if_neg c11] at H
       exact absurd H (by simp)
      rw [if_neg c10] at H
      exact absurd H (by simp)
   rw [if_neg c3] at H
   have c3b0 : decide (x5_1 < (a0.size : Int)) = false := decide_eq_false c3
   clear c3
   simp only [Option.some.injEq, Prod.mk.injEq] at H
   obtain ⟨rfl, rfl⟩ := H
   go_wp2
   go_ret2
   exact ⟨_, ab16_, aRw_ HO_4.out, ab2_⟩
theorem impl_exprSize.mono_l : ∀ k, (∀ y0 y1 y2, LeO (impl_exprSize.f k y0 y1 y2) (impl_exprSize.f (k + 1) y0 y1 y2)) ∧ (∀ y0 y1 y2 y3, LeO (impl_exprSize.l0 k y0 y1 y2 y3) (impl_exprSize.l0 (k + 1) y0 y1 y2 y3))
 | 0 => ⟨fun _ _ _ r h => by simp [impl_exprSize.f] at h, fun _ _ _ _ r h => by simp [impl_exprSize.l0] at h⟩
 | k + 1 => by
  obtain ⟨ih0, ih1⟩ := impl_exprSize.mono_l k
  refine ⟨?_, ?_⟩
  ·intro y0 y1 y2
   unfold impl_exprSize.f
   exact mo_
  ·intro y0 y1 y2 y3
   unfold impl_exprSize.l0
   exact mo_
theorem impl_exprSize.mono : ∀ a0 a1 a2 k, LeO (impl_exprSize.f k a0 a1 a2) (impl_exprSize.f (k + 1) a0 a1 a2) := by
 intro a0 a1 a2 k
 obtain ⟨ih0, ih1⟩ := impl_exprSize.mono_l k
 exact ih0 a0 a1 a2
theorem impl_exprSize.calls (k : Nat) : ∀ (a0_0 : Int) (a0_1 : Int) (A0_2 : Option Addr) (c0_2 : Nat) (l0_2 : List (S29)) (r : Int) (w : World) (hr0_2 : Kd.C k29 w A0_2 l0_2.length l0_2) (hc0_2 : l0_2.length ≤ c0_2) (h : impl_exprSize.f k a0_0 a0_1 l0_2 = some r),
  Calls Tryd.prog 27 #[.agg #[.int .i64 a0_0, .int .i64 a0_1, .slice A0_2 l0_2.length c0_2]] w fun e w' => e = .returned (.int .i64 r) ∧ Below w.heap.size w w' := by
 induction k using Nat.strongRecOn with
 | _ k ih =>
 intro a0_0 a0_1 A0_2 c0_2 l0_2 r w hr0_2 hc0_2 h
 cases k with
 | zero => exact absurd h (by simp [impl_exprSize.f])
 | succ k =>
 simp only [impl_exprSize.f] at h
 have hu29 := Tryd.underlying29
 have HR0_2 := am hr0_2
 have HC0_2 := am hc0_2
 clear hr0_2 hc0_2
 have HB := am (Below.refl w.heap.size w)
 have H : (impl_exprSize.l0 k 1 l0_2 (l0_2.length : Int) 0) = some r := h
 clear h
 have H' := am H
 clear H
 go_enter Tryd.func27, Tryd.ntmps27
 go_wp2_with (first | ((with_reducible refine gate_dst (N := 1) rfl ?_); refine box_event rfl (N := 1) rfl (cs := #[.int .i64 a0_0, .int .i64 a0_1, .slice A0_2 l0_2.length c0_2]) (t := 29) rn_ ?_; intro gb20 hg w2 hbox hb; have BK20 := am (hbox); have GW20 := am ((by rw [hg]; exact (below_size ab2_) : w.heap.size ≤ gb20)); have GE20 := am ((by rw [hg]; exact (below_size ab2_) : w.heap.size ≤ gb20)); replace HB := am (below_step ab2_ hb); clear hb hbox hg; obtain ⟨hcz3_0, hcz3_1, hcz3_2, hfz3_0, hfz3_1, hfz3_2⟩ := bcf3_ BK20.out))
 go_loopg [3, 9] k (fun kq v3 v9 w' => ∃ (x3_1 : Int) (x9_1 : Int), v3 = .int .i64 x3_1 ∧ v9 = .int .i64 x9_1 ∧ Aside0 (impl_exprSize.l0 kq x3_1 l0_2 (l0_2.length : Int) x9_1 = some r) ∧ Aside0 (kq ≤ k) ∧ Aside0 (w'.heap[gb20]? = some (.cells #[.int .i64 a0_0, .int .i64 a0_1, (.slice A0_2 l0_2.length c0_2)] 29 (0, 0))) ∧ Aside0 (Below w.heap.size w w'))
 case atStart => exact ⟨(1), (0), sd_, sd_, H', ⟨Nat.le_refl _⟩, ⟨by (with_reducible repeat (first | refine blk_drewN ?_ _ | refine blk_drew ?_ | refine blk_alloc ?_ _)); exact BK20.out⟩, ⟨ab45_⟩⟩
 case round =>
  clear H'
  try clear hcz3_0
  try clear hcz3_1
  try clear hcz3_2
  try clear hfz3_0
  try clear hfz3_1
  try clear hfz3_2
  obtain ⟨x3_1, x9_1, rfl, rfl, HA, HK1, BK20, HB⟩ := hrel
  cases gk with
  | zero => exact absurd HA.out (by simp [impl_exprSize.l0])
  | succ k1 =>
   have H := HA.out
   clear HA
   simp only [impl_exprSize.l0] at H
   by_cases c4 : x9_1 < (l0_2.length : Int)
   ·rw [if_pos c4] at H
    have c4b0 : decide (x9_1 < (l0_2.length : Int)) = true := decide_eq_true c4
    clear c4
    by_cases c5 : 0 ≤ x9_1
    ·rw [if_pos c5] at H
     have c5b0 : decide (0 ≤ x9_1) = true := decide_eq_true c5
     clear c5
     by_cases c6 : x9_1 < (l0_2.length : Int)
     ·rw [if_pos c6] at H
      have c6b0 : decide (x9_1 < (l0_2.length : Int)) = true := decide_eq_true c6
      clear c6
      obtain ⟨t21, A7, H⟩ := bsa H
      (try dsimp only at H)
      have H' := am H
      clear H
      have p22 : 0 ≤ (x9_1 : Int) := of_decide_eq_true asm_
      have q22 : x9_1 < (l0_2.length : Int) := of_decide_eq_true asm_
      obtain ⟨ad22, A22_2, c22_2, e22, hx22_0, hx22_1, hx22_2, hl22_2, hi22_2⟩ := at_T29 HR0_2.out x9_1 p22 q22
      cases e22
      replace hx22_0 := (HB.out.cell (World.block_lt_of_cell? w _ hx22_0)).trans hx22_0
      replace hx22_1 := (HB.out.cell (World.block_lt_of_cell? w _ hx22_1)).trans hx22_1
      replace hx22_2 := (HB.out.cell (World.block_lt_of_cell? w _ hx22_2)).trans hx22_2
      have HR22_2 := am hi22_2
      have HC22_2 := am hl22_2
      clear hi22_2 hl22_2
      replace p22 := eq_true p22
      replace q22 := eq_true q22
      go_wp2_with (first | ((with_reducible refine gate_dst (N := 5) rfl ?_); refine box_event rfl (N := 5) rfl (cs := #[.int .i64 0, .int .i64 0, .slice none 0 0]) (t := 29) rn_ ?_; intro gb23 hg w8 hbox hb; have BK23 := am (hbox); have GW23 := am ((by rw [hg]; exact (below_size ab45_) : w.heap.size ≤ gb23)); have GE23 := am ((by rw [hg]; exact (below_size ab45_) : w.heap.size ≤ gb23)); replace HB := am (below_step ab45_ hb); have NB20_23 := am ((by rw [hg]; exact Nat.ne_of_lt (blt_ BK20.out) : gb20 ≠ gb23)); have NB23_20 := am ((by rw [hg]; exact Nat.ne_of_gt (blt_ BK20.out) : gb23 ≠ gb20)); replace BK20 := am (bbl_ BK20.out hb); clear hb hbox hg; have hnb9 := NB23_20.out; have hnc9 := NB20_23.out; obtain ⟨hcz10_0, hcz10_1, hcz10_2, hfz10_0, hfz10_1, hfz10_2⟩ := bcf3_ BK23.out) | ((with_reducible refine gate_callee (f := 27) rfl ?_); refine gl_ 15 Tryd.func27 #[.agg #[.int .i64 ((rd_T29 l0_2 x9_1).f0), .int .i64 ((rd_T29 l0_2 x9_1).f1), .slice A22_2 ((rd_T29 l0_2 x9_1).f2).length c22_2]] ?_; (with_reducible refine (ih k1 (by have := HK1.out; omega) ((rd_T29 l0_2 x9_1).f0) ((rd_T29 l0_2 x9_1).f1) _ _ ((rd_T29 l0_2 x9_1).f2) t21 _ ?side1 HC22_2.out A7.out).mono ?_); (case side1 => exact Kd.C_below HR22_2.out ab50_); rintro e w11 ⟨rfl, hb⟩; refine ⟨_, rfl, ?_⟩; replace BK20 := am (blk_below (g := gb20) (o := .cells #[.int .i64 a0_0, .int .i64 a0_1, .slice (some ad22) l0_2.length c0_2] 29 (0, 0)) (blk_far (blk_far (blk_far BK20.out NB20_23.out _) NB20_23.out _) NB20_23.out _) hb); replace BK23 := am (blk_below (g := gb23) (o := .cells #[.int .i64 ((rd_T29 l0_2 x9_1).f0), .int .i64 ((rd_T29 l0_2 x9_1).f1), .slice A22_2 ((rd_T29 l0_2 x9_1).f2).length c22_2] 29 (0, 0)) (blk_put (blk_put (blk_put BK23.out 0 _ rfl) 1 _ rfl) 2 _ rfl) hb); replace HB := am (below_step ab50_ hb); (try clear hb)))
      go_roundg k1
      case measure => have := HK1.out; omega
      case rel => exact ⟨(wrap64 (x3_1 + t21)), (wrap64 (x9_1 + 1)), sd_, sd_, H', ⟨by have := HK1.out; omega⟩, ⟨by (with_reducible repeat (first | refine blk_drewN ?_ _ | refine blk_drew ?_ | refine blk_alloc ?_ _)); exact BK20.out⟩, ⟨ab50_⟩⟩
     rw [if_neg c6] at H
     exact absurd H (by simp)
    rw [if_neg c5] at H
    exact absurd H (by simp)
   rw [if_neg c4] at H
   have c4b0 : decide (x9_1 < (l0_2.length : Int)) = false := decide_eq_false c4
   clear c4
   obtain rfl := Option.some.inj H
   go_wp2
   go_ret
   exact ⟨rr_, ab45_⟩
theorem impl_ExprSize.mono : ∀ a0 a1 a2 k, LeO (impl_ExprSize.f k a0 a1 a2) (impl_ExprSize.f (k + 1) a0 a1 a2) := by
 intro a0 a1 a2 k
 unfold impl_ExprSize.f
 have m0 := @impl_ExprValid.mono
 have m1 := @impl_exprSize.mono
 exact mo_
theorem impl_ExprSize.calls (k : Nat) (a0_0 : Int) (a0_1 : Int) (A0_2 : Option Addr) (c0_2 : Nat) (l0_2 : List (S29)) (r : Int) (w : World) (hr0_2 : Kd.C k29 w A0_2 l0_2.length l0_2) (hc0_2 : l0_2.length ≤ c0_2) (h : impl_ExprSize.f k a0_0 a0_1 l0_2 = some r) :
  Calls Tryd.prog 14 #[.agg #[.int .i64 a0_0, .int .i64 a0_1, .slice A0_2 l0_2.length c0_2]] w fun e w' => e = .returned (.int .i64 r) ∧ Below w.heap.size w w' := by
 have hu29 := Tryd.underlying29
 have HR0_2 := am hr0_2
 have HC0_2 := am hc0_2
 clear hr0_2 hc0_2
 have HB := am (Below.refl w.heap.size w)
 have H : ((impl_ExprValid.f k a0_0 a0_1 l0_2).bind fun t21 => (if t21 = true then ((impl_exprSize.f k a0_0 a0_1 l0_2).bind fun t22 => (some t22)) else (some 0))) = some r := h
 clear h
 obtain ⟨t21, A2, H⟩ := bsa H
 (try dsimp only at H)
 have HH_ := am H
 clear H
 go_enter Tryd.func14, Tryd.ntmps14
 go_upto_region 1 with (first | ((with_reducible refine gate_dst (N := 1) rfl ?_); refine box_event rfl (N := 1) rfl (cs := #[.int .i64 a0_0, .int .i64 a0_1, .slice A0_2 l0_2.length c0_2]) (t := 29) rn_ ?_; intro gb23 hg w5 hbox hb; have BK23 := am (hbox); have GW23 := am ((by rw [hg]; exact (below_size ab2_) : w.heap.size ≤ gb23)); have GE23 := am ((by rw [hg]; exact (below_size ab2_) : w.heap.size ≤ gb23)); replace HB := am (below_step ab2_ hb); clear hb hbox hg; obtain ⟨hcz6_0, hcz6_1, hcz6_2, hfz6_0, hfz6_1, hfz6_2⟩ := bcf3_ BK23.out))
 have H := HH_.out
 clear HH_
 by_cases c3 : t21 = true
 ·subst c3
  rw [if_pos rfl] at H
  obtain ⟨t22, A4, H⟩ := bsa H
  (try dsimp only at H)
  obtain rfl := Option.some.inj H
  go_wp2_with (first | ((with_reducible refine gate_callee (f := 20) rfl ?_); refine gl_ 4 Tryd.func20 #[.agg #[.int .i64 a0_0, .int .i64 a0_1, .slice A0_2 l0_2.length c0_2]] ?_; (with_reducible refine (impl_ExprValid.calls k a0_0 a0_1 _ _ l0_2 true _ (aC_ (Kd.C_below HR0_2.out HB.out)) HC0_2.out A2.out).mono ?_); rintro e w7 ⟨rfl, hb⟩; refine ⟨_, rfl, ?_⟩; replace BK23 := am (bbl_ BK23.out hb); replace HB := am (below_step ab8_ hb); (try clear hb); obtain ⟨hcz8_0, hcz8_1, hcz8_2, hfz8_0, hfz8_1, hfz8_2⟩ := bcf3_ BK23.out) | ((with_reducible refine gate_callee (f := 27) rfl ?_); refine gl_ 7 Tryd.func27 #[.agg #[.int .i64 a0_0, .int .i64 a0_1, .slice A0_2 l0_2.length c0_2]] ?_; (with_reducible refine (impl_exprSize.calls k a0_0 a0_1 _ _ l0_2 t22 _ (aC_ (Kd.C_below HR0_2.out HB.out)) HC0_2.out A4.out).mono ?_); rintro e w9 ⟨rfl, hb⟩; refine ⟨_, rfl, ?_⟩; replace BK23 := am (bbl_ BK23.out hb); replace HB := am (below_step ab8_ hb); (try clear hb)))
  go_ret
  exact ⟨rr_, ab8_⟩
 replace c3 := Bool.eq_false_iff.mpr c3
 subst c3
 rw [if_neg (show ¬ (false = true) by decide)] at H
 obtain rfl := Option.some.inj H
 go_wp2_with (first | ((with_reducible refine gate_callee (f := 20) rfl ?_); refine gl_ 4 Tryd.func20 #[.agg #[.int .i64 a0_0, .int .i64 a0_1, .slice A0_2 l0_2.length c0_2]] ?_; (with_reducible refine (impl_ExprValid.calls k a0_0 a0_1 _ _ l0_2 false _ (aC_ (Kd.C_below HR0_2.out HB.out)) HC0_2.out A2.out).mono ?_); rintro e w12 ⟨rfl, hb⟩; refine ⟨_, rfl, ?_⟩; replace BK23 := am (bbl_ BK23.out hb); replace HB := am (below_step ab8_ hb); (try clear hb)))
 go_ret
 exact ⟨rr_, ab8_⟩
theorem laws_FnTextTokens.mono_l : ∀ k, (∀ y0 y1 y2 y3 y4 y5, LeO (laws_FnTextTokens.j0 k y0 y1 y2 y3 y4 y5) (laws_FnTextTokens.j0 (k + 1) y0 y1 y2 y3 y4 y5))
 | 0 => fun _ _ _ _ _ _ r h => by simp [laws_FnTextTokens.j0] at h
 | k + 1 => by
  have ih0 := laws_FnTextTokens.mono_l k
  ·intro y0 y1 y2 y3 y4 y5
   unfold laws_FnTextTokens.j0
   have m0 := @impl_ExprSize.mono
   have m1 := @impl_ExprText.mono
   have m2 := @impl_Tokens.mono
   have m3 := @laws_bytesOf.mono
   have m4 := @spec_DrawExprText.mono
   have m5 := @spec_ExprText.mono
   exact mo_
theorem laws_FnTextTokens.mono : ∀ a0 k, LeO (laws_FnTextTokens.f k a0) (laws_FnTextTokens.f (k + 1) a0) := by
 intro a0 k
 have ih0 := laws_FnTextTokens.mono_l k
 unfold laws_FnTextTokens.f
 have m0 := @impl_ExprSize.mono
 have m1 := @impl_ExprText.mono
 have m2 := @impl_Tokens.mono
 have m3 := @laws_bytesOf.mono
 have m4 := @spec_DrawExprText.mono
 have m5 := @spec_ExprText.mono
 exact mo_
theorem laws_FnTextTokens.calls (k : Nat) (A0 : Option Addr) (c0 : Nat) (l0 : List Int) (r : Bool) (w : World) (hr0 : Kd.C (Kd.int .u8) w A0 l0.length l0) (hc0 : l0.length ≤ c0) (ht_ : Tab w) (h : laws_FnTextTokens.f k l0 = some r) :
  Calls Tryd.prog 5 #[.slice A0 l0.length c0] w fun e w' => e = .returned (.bool r) ∧ Below w.heap.size w w' := by
 have hu29 := Tryd.underlying29
 have HR0 := am hr0
 have HC0 := am hc0
 clear hr0 hc0
 have HB := am (Below.refl w.heap.size w)
 have H : (if (l0.length : Int) > 1048576 then (some true) else ((spec_DrawExprText.f k l0).bind fun bt31 => ((impl_ExprText.f k bt31.1 bt31.2.1 bt31.2.2).bind fun t33 => ((spec_ExprText.f k bt31.1 bt31.2.1 bt31.2.2).bind fun t35 => (if t33.toList = t35.toList then (laws_FnTextTokens.j0 k t33 t35 (t33.toList == ([] : List UInt8)) bt31.1 bt31.2.1 bt31.2.2) else (laws_FnTextTokens.j0 k t33 t35 true bt31.1 bt31.2.1 bt31.2.2)))))) = some r := h
 clear h
 by_cases c2 : (l0.length : Int) > 1048576
 ·rw [if_pos c2] at H
  have c2b0 : decide (1048576 < (l0.length : Int)) = true := decide_eq_true c2
  have c2b1 : decide (1048576 < l0.length) = true := decide_eq_true (by omega)
  clear c2
  obtain rfl := Option.some.inj H
  go_enter Tryd.func5, Tryd.ntmps5
  go_wp2
  go_ret
  exact ⟨rr_, ab2_⟩
 rw [if_neg c2] at H
 have c2b0 : decide (1048576 < (l0.length : Int)) = false := decide_eq_false c2
 have c2b1 : decide (1048576 < l0.length) = false := decide_eq_false (by omega)
 clear c2
 obtain ⟨⟨t31, t36, t37⟩, A3, H⟩ := bsa H
 (try dsimp only at H)
 obtain ⟨t33, A4, H⟩ := bsa H
 (try dsimp only at H)
 obtain ⟨t35, A5, H⟩ := bsa H
 (try dsimp only at H)
 have HC6 := am H
 clear H
 go_enter Tryd.func5, Tryd.ntmps5
 go_upto_region 6 with (first | ((with_reducible refine gate_callee (f := 11) rfl ?_); refine gl_ 13 Tryd.func11 #[.slice A0 l0.length c0] ?_; (with_reducible refine (spec_DrawExprText.calls k _ _ l0 t31 t36 t37 _ (aC_ HR0.out) HC0.out A3.out).mono ?_); rintro e w7 ⟨v38, rfl, ho0, hb⟩; refine ⟨_, rfl, ?_⟩; have HO39 := am (Kd.N_lower (Kd.N_mono (ok' := fun k_ => True) ho0 (fun k_ hk_ => trivial)) (below_size ab2_)); replace HB := am (below_step ab2_ hb); (try clear hb); (try clear ho0)) | ((with_reducible refine gate_dst (N := 3) rfl ?_); (try (refine gate_guard (by rfl) ?_; dsimp only)); refine box_event rfl (N := 3) rfl (cs := #[.int .i64 0, .int .i64 0, .slice none 0 0]) (t := 29) rn_ ?_; intro gb42 hg w8 hbox hb; replace HO39 := am (Kd.N_below (Kd.N_elderB (aN_ HO39.out) gb42 (Nat.le_of_eq hg.symm)) hb); have BK42 := am (hbox); have GW42 := am ((by rw [hg]; exact (below_size ab2_) : w.heap.size ≤ gb42)); have GE42 := am ((by rw [hg]; exact (below_size ab2_) : w.heap.size ≤ gb42)); replace HB := am (below_step ab2_ hb); clear hb hbox hg; obtain ⟨hcz9_0, hcz9_1, hcz9_2, hfz9_0, hfz9_1, hfz9_2⟩ := bcf3_ BK42.out; obtain ⟨Ao10, co10, eo10⟩ := Kd.N_slice HO39.out; subst eo10) | ((with_reducible refine gate_callee (f := 9) rfl ?_); refine gl_ 15 Tryd.func9 #[.agg #[.int .i64 t31, .int .i64 t36, .slice Ao10 t37.length co10]] ?_; (with_reducible refine (impl_ExprText.calls k t31 t36 _ _ t37 t33 _ ?side1 (Kd.N_reads' HO39.out).2.1 ?sideT A4.out).mono ?_); (case sideT => first | exact ht_ | exact Tab.below ht_ HB.out | exact Tab.below ht_ ab15_); (case side1 => refine (Kd.N_reads' (e := 29) (base := w.heap.size) (ok := fun k_ => (True ∧ k_ ≠ gb42)) (n := t37.length) (c := co10) ?_).2.2; exact (aNw_ ((Kd.N_mono (Kd.N_far (p := ⟨gb42, 2, none⟩) (Kd.N_far (p := ⟨gb42, 1, none⟩) (Kd.N_far (p := ⟨gb42, 0, none⟩) (Kd.N_mono HO39.out (fun k_ hk => (⟨hk, hk.2⟩ : _ ∧ k_ ≠ gb42))) (fun _ hk => hk.2) (.int .i64 t31)) (fun _ hk => hk.2) (.int .i64 t36)) (fun _ hk => hk.2) (.slice Ao10 t37.length co10)) (fun _ h_ => h_.1))))); rintro e w11 ⟨rfl, hb⟩; refine ⟨_, rfl, ?_⟩; replace HO39 := am (Kd.N_below (aNw_ ((Kd.N_mono (Kd.N_far (p := ⟨gb42, 2, none⟩) (Kd.N_far (p := ⟨gb42, 1, none⟩) (Kd.N_far (p := ⟨gb42, 0, none⟩) (Kd.N_mono HO39.out (fun k_ hk => (⟨hk, hk.2⟩ : _ ∧ k_ ≠ gb42))) (fun _ hk => hk.2) (.int .i64 t31)) (fun _ hk => hk.2) (.int .i64 t36)) (fun _ hk => hk.2) (.slice Ao10 t37.length co10)) (fun _ h_ => h_.1)))) hb); replace BK42 := am (blk_below (g := gb42) (o := .cells #[.int .i64 t31, .int .i64 t36, .slice Ao10 t37.length co10] 29 (0, 0)) (blk_put (blk_put (blk_put BK42.out 0 _ rfl) 1 _ rfl) 2 _ rfl) hb); replace HB := am (below_step ab15_ hb); (try clear hb); obtain ⟨hcz12_0, hcz12_1, hcz12_2, hfz12_0, hfz12_1, hfz12_2⟩ := bcf3_ BK42.out) | ((with_reducible refine gate_callee (f := 7) rfl ?_); refine gl_ 17 Tryd.func7 #[.agg #[.int .i64 t31, .int .i64 t36, .slice Ao10 t37.length co10]] ?_; (with_reducible refine (spec_ExprText.calls k t31 t36 _ _ t37 t35 _ (aC_ (Kd.N_reads' HO39.out).2.2) (Kd.N_reads' HO39.out).2.1 A5.out).mono ?_); rintro e w13 ⟨rfl, hb⟩; refine ⟨_, rfl, ?_⟩; replace HO39 := am (Kd.N_below (aN_ HO39.out) hb); replace BK42 := am (bbl_ BK42.out hb); replace HB := am (below_step ab15_ hb); (try clear hb)))
 (try simp only [Act.put, List.setIfInBounds_toArray, List.set_cons_zero, List.set_cons_succ])
 go_cut [24] (fun v24 wc => ∃ (kq : Nat) (x24_5 : Bool), v24 = .bool x24_5 ∧ Aside0 (laws_FnTextTokens.j0 kq t33 t35 x24_5 t31 t36 t37 = some r) ∧ Aside0 (kq ≤ k) ∧ Aside0 (Kd.N k29 29 wc w.heap.size (fun k_ => k_ ≠ gb42) (.slice Ao10 t37.length co10) t37) ∧ Aside0 (wc.heap[gb42]? = some (.cells #[.int .i64 t31, .int .i64 t36, (.slice Ao10 t37.length co10)] 29 (0, 0))) ∧ Aside0 (Below w.heap.size w wc))
 case first =>
  have H := HC6.out
  clear HC6
  by_cases c14 : t33.toList = t35.toList
  ·rw [if_pos c14] at H
   have c14b0 : (t33.toList == t35.toList) = true := beq_iff_eq.mpr c14
   have c14b1 : (t33.toList != t35.toList) = false := bne_eq_false_iff_eq.mpr c14
   clear c14
   (first | rw [c14b0] | (simp only [i64_w, i32_w]; rw [c14b0]) | skip)
   have H' := am H
   clear H
   go_wp2
   go_meet
   case rel => exact ⟨_, ((t33.toList == ([] : List UInt8))), sd_, H', ⟨by first | omega | exact Nat.le_refl _⟩, ⟨aNw_ (Kd.N_mono HO39.out (fun _ hk => hk.2))⟩, ⟨by (with_reducible repeat (first | refine blk_drewN ?_ _ | refine blk_drew ?_ | refine blk_alloc ?_ _)); exact BK42.out⟩, ⟨ab15_⟩⟩
  rw [if_neg c14] at H
  have c14b0 : (t33.toList == t35.toList) = false := beq_eq_false_iff_ne.mpr c14
  have c14b1 : (t33.toList != t35.toList) = true := bne_iff_ne.mpr c14
  (first | rw [c14b0] | (simp only [i64_w, i32_w]; rw [c14b0]) | skip)
  have H' := am H
  clear H
  go_wp2
  go_meet
  case rel => exact ⟨_, (true), sd_, H', ⟨by first | omega | exact Nat.le_refl _⟩, ⟨aNw_ (Kd.N_mono HO39.out (fun _ hk => hk.2))⟩, ⟨by (with_reducible repeat (first | refine blk_drewN ?_ _ | refine blk_drew ?_ | refine blk_alloc ?_ _)); exact BK42.out⟩, ⟨ab15_⟩⟩
 case rest =>
  clear HC6
  try clear c2
  try clear c2b0
  try clear c2b1
  try clear hcz12_0
  try clear hcz12_1
  try clear hcz12_2
  try clear hcz9_0
  try clear hcz9_1
  try clear hcz9_2
  try clear hfz12_0
  try clear hfz12_1
  try clear hfz12_2
  try clear hfz9_0
  try clear hfz9_1
  try clear hfz9_2
  obtain ⟨kq, x24_5, rfl, HA, HJ5, HO_43, BK42, HB⟩ := hcut
  cases kq with
  | zero => exact absurd HA.out (by simp [laws_FnTextTokens.j0])
  | succ kj5 =>
   have H := HA.out
   clear HA
   simp only [laws_FnTextTokens.j0] at H
   by_cases c15 : x24_5 = true
   ·subst c15
    rw [if_pos rfl] at H
    obtain rfl := Option.some.inj H
    go_wp2
    go_ret
    exact ⟨rr_, ab15_⟩
   replace c15 := Bool.eq_false_iff.mpr c15
   subst c15
   rw [if_neg (show ¬ (false = true) by decide)] at H
   obtain ⟨⟨t44, t48⟩, A49, H⟩ := bsm H
   (try dsimp only at H)
   have A16 := am A49
   clear A49
   obtain ⟨t45, A51, H⟩ := bsm H
   (try dsimp only at H)
   have A17 := am A51
   clear A51
   by_cases c18 : t48 = true
   ·subst c18
    rw [if_pos rfl] at H
    obtain ⟨t46, A52, H⟩ := bsm H
    (try dsimp only at H)
    have A19 := am A52
    clear A52
    by_cases c20 : (t44.length : Int) = (wrap64 (t46 + (wrap64 (2 * t45))))
    ·rw [if_pos c20] at H
     have c20b0 : ((t44.length : Int) == (wrap64 (t46 + (wrap64 (2 * t45))))) = true := beq_iff_eq.mpr c20
     have c20b1 : ((t44.length : Int) != (wrap64 (t46 + (wrap64 (2 * t45))))) = false := bne_eq_false_iff_eq.mpr c20
     clear c20
     obtain ⟨t47, A53, H⟩ := bsm H
     (try dsimp only at H)
     have A21 := am A53
     clear A53
     obtain rfl := Option.some.inj H
     go_wp2_with (first | ((with_reducible refine gate_callee (f := 13) rfl ?_); refine gl_ 30 Tryd.func13 #[.string t33] ?_; (with_reducible refine (impl_Tokens.calls kj5 t33 t44 true _ A16.out).mono ?_); rintro e w22 ⟨v54, rfl, ho0, hb⟩; refine ⟨_, rfl, ?_⟩; replace HO_43 := am (Kd.N_elder' (aN_ HO_43.out) (Kd.R_base ho0) hb); have HO55 := am (Kd.R_lower ho0 (below_size ab15_)); replace BK42 := am (bbl_ BK42.out hb); replace HB := am (below_step ab15_ hb); (try clear hb); (try clear ho0)) | ((with_reducible refine gate_callee (f := 12) rfl ?_); refine gl_ 34 Tryd.func12 #[.string t33, .int .u8 40] ?_; (with_reducible refine (laws_bytesOf.calls kj5 t33 40 t45 _ A17.out).mono ?_); rintro e w' ⟨rfl, ⟨nd, rfl⟩⟩; refine ⟨_, rfl, ?_⟩; obtain ⟨Ao23, co23, eo23⟩ := Kd.R_slice HO55.out; subst eo23; obtain ⟨hcz24_0, hcz24_1, hcz24_2, hfz24_0, hfz24_1, hfz24_2⟩ := bcf3_ BK42.out) | (go_at_call 14; (with_reducible refine (impl_ExprSize.calls kj5 t31 t36 _ _ t37 t46 _ (aC_ (Kd.N_reads' HO_43.out).2.2) (Kd.N_reads' HO_43.out).2.1 A19.out).mono ?_); rintro e w25 ⟨rfl, hb⟩; replace HO_43 := am (Kd.N_below (aN_ HO_43.out) hb); replace HO55 := am (Kd.R_below (aR_ HO55.out) hb); replace BK42 := am (bbl_ BK42.out hb); replace HB := am (below_step ab15_ hb); (try clear hb)) | (go_at_call 12; (with_reducible refine (laws_bytesOf.calls kj5 t33 41 t47 _ A21.out).mono ?_); rintro e w' ⟨rfl, ⟨nd, rfl⟩⟩))
     go_ret
     exact ⟨rr_, ab15_⟩
    rw [if_neg c20] at H
    have c20b0 : ((t44.length : Int) == (wrap64 (t46 + (wrap64 (2 * t45))))) = false := beq_eq_false_iff_ne.mpr c20
    have c20b1 : ((t44.length : Int) != (wrap64 (t46 + (wrap64 (2 * t45))))) = true := bne_iff_ne.mpr c20
    obtain rfl := Option.some.inj H
    go_wp2_with (first | ((with_reducible refine gate_callee (f := 13) rfl ?_); refine gl_ 30 Tryd.func13 #[.string t33] ?_; (with_reducible refine (impl_Tokens.calls kj5 t33 t44 true _ A16.out).mono ?_); rintro e w26 ⟨v54, rfl, ho0, hb⟩; refine ⟨_, rfl, ?_⟩; replace HO_43 := am (Kd.N_elder' (aN_ HO_43.out) (Kd.R_base ho0) hb); have HO55 := am (Kd.R_lower ho0 (below_size ab15_)); replace BK42 := am (bbl_ BK42.out hb); replace HB := am (below_step ab15_ hb); (try clear hb); (try clear ho0)) | ((with_reducible refine gate_callee (f := 12) rfl ?_); refine gl_ 34 Tryd.func12 #[.string t33, .int .u8 40] ?_; (with_reducible refine (laws_bytesOf.calls kj5 t33 40 t45 _ A17.out).mono ?_); rintro e w' ⟨rfl, ⟨nd, rfl⟩⟩; refine ⟨_, rfl, ?_⟩; obtain ⟨Ao27, co27, eo27⟩ := Kd.R_slice HO55.out; subst eo27; obtain ⟨hcz28_0, hcz28_1, hcz28_2, hfz28_0, hfz28_1, hfz28_2⟩ := bcf3_ BK42.out) | (go_at_call 14; (with_reducible refine (impl_ExprSize.calls kj5 t31 t36 _ _ t37 t46 _ (aC_ (Kd.N_reads' HO_43.out).2.2) (Kd.N_reads' HO_43.out).2.1 A19.out).mono ?_); rintro e w29 ⟨rfl, hb⟩; replace HO_43 := am (Kd.N_below (aN_ HO_43.out) hb); replace HO55 := am (Kd.R_below (aR_ HO55.out) hb); replace BK42 := am (bbl_ BK42.out hb); replace HB := am (below_step ab15_ hb); (try clear hb)))
    go_ret
    exact ⟨rr_, ab15_⟩
   replace c18 := Bool.eq_false_iff.mpr c18
   subst c18
   rw [if_neg (show ¬ (false = true) by decide)] at H
   obtain rfl := Option.some.inj H
   go_wp2_with (first | ((with_reducible refine gate_callee (f := 13) rfl ?_); refine gl_ 30 Tryd.func13 #[.string t33] ?_; (with_reducible refine (impl_Tokens.calls kj5 t33 t44 false _ A16.out).mono ?_); rintro e w30 ⟨v54, rfl, ho0, hb⟩; refine ⟨_, rfl, ?_⟩; replace HO_43 := am (Kd.N_elder' (aN_ HO_43.out) (Kd.R_base ho0) hb); have HO55 := am (Kd.R_lower ho0 (below_size ab15_)); replace BK42 := am (bbl_ BK42.out hb); replace HB := am (below_step ab15_ hb); (try clear hb); (try clear ho0)) | ((with_reducible refine gate_callee (f := 12) rfl ?_); refine gl_ 34 Tryd.func12 #[.string t33, .int .u8 40] ?_; (with_reducible refine (laws_bytesOf.calls kj5 t33 40 t45 _ A17.out).mono ?_); rintro e w' ⟨rfl, ⟨nd, rfl⟩⟩; refine ⟨_, rfl, ?_⟩))
   go_ret
   exact ⟨rr_, ab15_⟩
def laws_FnTextTokens.Pure : Prop := ∀ (l0 : List Int), l0.length ≤ maxLen → l0.length * 1 ≤ 140737488351232 → (∀ x ∈ l0, (Lit.int .u8 x).wf = true) → ∃ k, laws_FnTextTokens.f k l0 = some true
theorem laws_FnTextTokens.walk (P : laws_FnTextTokens.Pure) (a0 : Option Addr) (len0 cap0 : Nat) (z0 : List Int) (w : World) (w0 : (a0 = none ∧ len0 = 0 ∧ cap0 = 0 ∧ z0 = []) ∨ ∃ x, a0 = some x ∧ len0 ≤ cap0 ∧ cap0 ≤ maxLen ∧ z0.length = cap0 ∧ (∀ i, i < z0.length → w.cell? (x.add i) = some (.int .u8 (z0.getD i 0))) ∧ ∀ n ∈ z0, (Lit.int .u8 n).wf = true) (y0 : len0 * 1 ≤ 140737488351232) (ht_ : Tab w) :
  Calls Tryd.prog 5 #[.slice a0 len0 cap0] w fun e w' => e = .returned (.bool true) ∧ Below w.heap.size w w' := by
 obtain ⟨l0, rfl, hr0, hm0, hw0, hc0⟩ := ReadsInt.ofRowC w0
 obtain ⟨k, h⟩ := P l0 hm0 y0 hw0
 refine (laws_FnTextTokens.calls k _ _ l0 true w (Kd.C_of_reads (d := (0 : Int)) (h1 := fun _ => rfl) hr0) hc0 ht_ h).mono ?_
 rintro e w' ⟨rfl, hd⟩
 exact ⟨rfl, hd⟩
end Go.Proofs.YtjamfkpgmkhbnaaDoor.PA

namespace Go.Proofs.YtjamfkpgmkhbnaaDoor.Core
open Go.RowKit Go.Proofs.YtjamfkpgmkhbnaaDoorW.PrintWords Go.Proofs.YtjamfkpgmkhbnaaDoorW.PrintMore
section
variable {α β : Type} {g h : Nat → Option α} {P Q : α → Prop}
def EvP (g : Nat → Option α) (P : α → Prop) : Prop := ∃ r, Ev g r ∧ P r
theorem EvP.ret {r : α} (h : P r) : EvP (fun _ => some r) P := ⟨r, Ev.now r, h⟩
theorem EvP.mono (h : EvP g P) (k : ∀ a, P a → Q a) : EvP g Q := by
 obtain ⟨r, h1, h2⟩ := h
 exact ⟨r, h1, k r h2⟩
theorem EvP.bind {f : Nat → α → Option β} {R : β → Prop} (h : EvP g P) (k : ∀ a, P a → EvP (fun n => f n a) R) : EvP (fun n => (g n).bind (f n)) R := by
 obtain ⟨a, h1, h2⟩ := h
 obtain ⟨r, k1, k2⟩ := k a h2
 exact ⟨r, Ev.bind h1 k1, k2⟩
theorem EvP.bind0 {o : Option α} {a : α} {f : Nat → α → Option β} {R : β → Prop} (h : o = some a) (k : EvP (fun n => f n a) R) : EvP (fun n => o.bind (f n)) R := by
 subst h
 exact k
theorem EvP.ite {c : Prop} [Decidable c] (h1 : c → EvP g P) (h2 : ¬ c → EvP h P) : EvP (fun n => if c then g n else h n) P := by
 by_cases hc : c
 ·simp only [if_pos hc]
  exact h1 hc
 ·simp only [if_neg hc]
  exact h2 hc
theorem EvP.yes {c : Prop} [Decidable c] (hc : c) (h1 : EvP g P) : EvP (fun n => if c then g n else h n) P := by
 simp only [if_pos hc]
 exact h1
theorem EvP.no {c : Prop} [Decidable c] (hc : ¬ c) (h1 : EvP h P) : EvP (fun n => if c then g n else h n) P := by
 simp only [if_neg hc]
 exact h1
theorem EvP.step {f : Nat → Option α} (h : ∀ k, g (k + 1) = f k) (k : EvP f P) : EvP g P := by
 obtain ⟨r, h1, h2⟩ := k
 exact ⟨r, Ev.step h h1, h2⟩
theorem EvP.ends {r : α} (h : EvP g (· = r)) : ∃ k, g k = some r := by
  obtain ⟨a, h1, h2⟩ := h
  subst h2
  exact h1.rounds
theorem Ev.evp {r : α} (h : Ev g r) : EvP g (· = r) := ⟨r, h, rfl⟩
theorem EvP.congr {f : Nat → Option α} (h : ∀ k, g k = f k) (k : EvP f P) : EvP g P := by
 obtain ⟨r, h1, h2⟩ := k
 exact ⟨r, Ev.congr h h1, h2⟩
theorem EvP.of {o : Option α} {r : α} (h : o = some r) (hp : P r) : EvP (fun _ => o) P := by
 subst h
 exact EvP.ret hp
theorem EvP.bindEq {f : Nat → α → Option β} {R : β → Prop} {a : α} (h : EvP g (· = a)) (k : EvP (fun n => f n a) R) : EvP (fun n => (g n).bind (f n)) R :=
  EvP.bind h (fun b hb => by subst hb; exact k)
end
theorem w64 {n : Int} (h1 : -9223372036854775808 ≤ n) (h2 : n ≤ 9223372036854775807) : wrap64 n = n := by
 unfold wrap64
 omega
theorem rd_mem (xs : List Int) (i : Int) (h0 : 0 ≤ i) (h : i < xs.length) : rd xs i ∈ xs := by
 unfold rd
 rw [List.getD_eq_getElem?_getD, List.getElem?_eq_getElem (by omega)]
 exact List.getElem_mem _
theorem tm_range {a b : Int} (h0 : 0 ≤ a) (hb : 0 < b) : 0 ≤ Int.tmod a b ∧ Int.tmod a b < b := by
 rw [Int.tmod_eq_emod_of_nonneg h0]
 exact ⟨Int.emod_nonneg _ (by omega), Int.emod_lt_of_pos _ hb⟩
end Go.Proofs.YtjamfkpgmkhbnaaDoor.Core

namespace Go.Proofs.YtjamfkpgmkhbnaaDoor.PA
open Go.RowKit Go.Proofs.YtjamfkpgmkhbnaaDoorW.PrintWords Go.Proofs.YtjamfkpgmkhbnaaDoorW.PrintMore Go.Proofs.YtjamfkpgmkhbnaaDoor.Core
def ap (op a b : Int) : Int :=
 if op = 1 then Go.bits .or .i64 a b else if op = 2 then Go.bits .xor .i64 a b else if op = 3 then Go.bits .and .i64 a b
 else if op = 4 then (if a = b then 1 else 0) else if op = 5 then (if a < b then 1 else 0)
 else if op = 6 then wrap32 (shl .i64 a (Go.bits .and .i64 b 31)) else if op = 7 then shr .i64 a (Go.bits .and .i64 b 31)
 else if op = 8 then wrap32 (a + b) else if op = 9 then wrap32 (a - b) else if op = 10 then wrap32 (a * b)
 else if op = 11 then (if b = 0 then -1 else wrap32 (Int.tdiv a b)) else if b = 0 then a else Int.tmod a b
end Go.Proofs.YtjamfkpgmkhbnaaDoor.PA

namespace Go.Proofs.YtjamfkpgmkhbnaaDoor.PA
open Go.RowKit Go.Proofs.YtjamfkpgmkhbnaaDoorW.PrintWords Go.Proofs.YtjamfkpgmkhbnaaDoor.Core
theorem l6In_eq (a b c : Int) : spec_l6In.f a b c = some (decide (b ≤ a) && decide (a ≤ c)) := by
 unfold spec_l6In.f
 by_cases h : a ≥ b
 ·rw [if_pos h, decide_eq_true h, Bool.true_and]
 ·rw [if_neg h, decide_eq_false h, Bool.false_and]
end Go.Proofs.YtjamfkpgmkhbnaaDoor.PA

namespace Go.Proofs.YtjamfkpgmkhbnaaDoor.PA
open Go.RowKit Go.Proofs.YtjamfkpgmkhbnaaDoor.Core
inductive X where
 | num (n : Int)
 | var (v : Int)
 | bin (op : Int) (a b : X)
namespace X
def ok : X → Prop
 | num n => 0 ≤ n ∧ n ≤ 99999
 | var v => 0 ≤ v ∧ v < 4
 | bin op a b => (1 ≤ op ∧ op ≤ 12) ∧ a.ok ∧ b.ok
def depth : X → Nat
 | num _ => 1
 | var _ => 1
 | bin _ a b => max a.depth b.depth + 1
def size : X → Nat
 | num _ => 1
 | var _ => 1
 | bin _ a b => a.size + b.size + 1
def eval (g : Int → Int) : X → Int
 | num n => n
 | var v => g v
 | bin op a b => ap op (a.eval g) (b.eval g)
theorem one_le_depth : ∀ x : X, 1 ≤ x.depth
 | num _ | var _ => Nat.le_refl _
 | bin _ _ _ => Nat.le_add_left _ _
theorem size_depth : ∀ x : X, x.size + 1 ≤ 2 ^ x.depth
 | num _ | var _ => by simp [size, depth]
 | bin _ a b => by
  have ha := size_depth a
  have hb := size_depth b
  have h1 : 2 ^ a.depth ≤ 2 ^ max a.depth b.depth := Nat.pow_le_pow_right (by omega) (Nat.le_max_left _ _)
  have h2 : 2 ^ b.depth ≤ 2 ^ max a.depth b.depth := Nat.pow_le_pow_right (by omega) (Nat.le_max_right _ _)
  simp only [size, depth, Nat.pow_succ]
  omega
end X
end Go.Proofs.YtjamfkpgmkhbnaaDoor.PA

namespace Go.Proofs.YtjamfkpgmkhbnaaDoor.PA
open Go.RowKit Go.Proofs.YtjamfkpgmkhbnaaDoor.Core Go.Proofs.YtjamfkpgmkhbnaaDoorW.PrintWords
def ba (l : List UInt8) : ByteArray := ⟨l.toArray⟩
theorem ba_size (l : List UInt8) : (ba l).size = l.length := by simp [ba, ByteArray.size]
theorem ba_data (l : List UInt8) : (ba l).data.toList = l := by simp [ba]
theorem ba_eta (s : ByteArray) : ba s.data.toList = s := by
 cases s
 simp [ba]
theorem ba_of {s t : ByteArray} (h : s.data.toList = t.data.toList) : s = t := by rw [← ba_eta s, h, ba_eta]
theorem ba_append (l m : List UInt8) : ba l ++ ba m = ba (l ++ m) := ba_of (by simp [ba])
theorem ba_extract (l : List UInt8) (i j : Nat) : (ba l).extract i j = ba ((l.take j).drop i) := ba_of (by
 simp only [ba, ByteArray.data_extract, Array.toList_extract, List.extract_eq_take_drop]
 rw [List.drop_take])
theorem ba_bt (l : List UInt8) (i : Nat) (h : i < l.length) : bt (ba l) (i : Int) = (l[i].toNat : Int) := by
 unfold bt
 rw [dif_pos (by rw [Int.toNat_natCast, ba_size]; exact h)]
 simp [ba, ByteArray.getElem_eq_getElem_data]
theorem toList_loop (s : ByteArray) : ∀ (d i : Nat) (r : List UInt8), i + d = s.size → ByteArray.toList.loop s i r = r.reverse ++ s.data.toList.drop i
 | 0, i, r, h => by
  rw [ByteArray.toList.loop, if_neg (by omega), List.drop_eq_nil_of_le (by show s.size ≤ i; omega), List.append_nil]
 | d + 1, i, r, h => by
  have hi : i < s.data.toList.length := by show i < s.size; omega
  rw [ByteArray.toList.loop, if_pos (by omega), toList_loop s d (i + 1) _ (by omega), List.drop_eq_getElem_cons hi, List.reverse_cons, List.append_assoc]
  congr 1
  simp only [List.singleton_append, List.cons.injEq, and_true]
  show s.data[i]! = _
  exact getElem!_pos s.data i hi
theorem toList_data (s : ByteArray) : s.toList = s.data.toList := by
 unfold ByteArray.toList
 rw [toList_loop s s.size 0 [] (by omega)]
 rfl
theorem ba_toList (l : List UInt8) : (ba l).toList = l := by rw [toList_data, ba_data]
def isD (c : UInt8) : Bool := decide (48 ≤ c.toNat) && decide (c.toNat ≤ 57)
def isL (c : UInt8) : Bool := decide (97 ≤ c.toNat) && decide (c.toNat ≤ 122)
def syms : List (List UInt8) := [[61, 61], [60, 60], [62, 62], [124], [94], [38], [60], [43], [45], [42], [47], [37], [40], [41], [123], [125], [61], [59]]
inductive Tok : List UInt8 → Prop
 | dig (c : UInt8) (t : List UInt8) (h : ∀ x ∈ c :: t, isD x = true) : Tok (c :: t)
 | let_ (c : UInt8) (t : List UInt8) (h : ∀ x ∈ c :: t, isL x = true) : Tok (c :: t)
 | sym (t : List UInt8) (h : t ∈ syms) : Tok t
def Rest (r : List UInt8) : Prop := r = [] ∨ ∃ q, r = 32 :: q
theorem Tok.pos {t : List UInt8} (h : Tok t) : 0 < t.length := by
 cases h with
 | dig => simp
 | let_ => simp
 | sym t h =>
  simp only [syms, List.mem_cons, List.not_mem_nil, or_false] at h
  rcases h with h | h | h | h | h | h | h | h | h | h | h | h | h | h | h | h | h | h <;> subst h <;> decide
def joinT : List (List UInt8) → List UInt8
 | [] => []
 | [x] => x
 | x :: y :: r => x ++ 32 :: joinT (y :: r)
theorem joinT_lib : ∀ l : List (List UInt8), Lib.join l [32] = joinT l
 | [] => rfl
 | [x] => Lib.join_one x _
 | x :: y :: r => by
  rw [Lib.join_cons, joinT, ← joinT_lib (y :: r), Lib.join_cons]
  simp [Lib.joinTail]
theorem joinT_cons (x : List UInt8) {l : List (List UInt8)} (h : l ≠ []) : joinT (x :: l) = x ++ 32 :: joinT l := by
 cases l with
 | nil => exact absurd rfl h
 | cons y r => rfl
theorem joinT_append {l m : List (List UInt8)} (hl : l ≠ []) (hm : m ≠ []) : joinT (l ++ m) = joinT l ++ 32 :: joinT m := by
 induction l with
 | nil => exact absurd rfl hl
 | cons x r ih =>
  cases r with
  | nil => rw [List.singleton_append, joinT_cons x hm]; rfl
  | cons y q =>
   rw [List.cons_append, joinT_cons x (by simp), ih (by simp), joinT_cons x (by simp)]
   simp
theorem decDigits_isD (u : Nat) : ∀ c ∈ Lib.decDigits u, isD c = true := by
 induction u using Nat.strongRecOn with
 | _ u ih =>
  intro c hc
  rw [Lib.decDigits] at hc
  split at hc
  ·rw [List.mem_singleton] at hc
   subst hc
   have : u = 0 ∨ u = 1 ∨ u = 2 ∨ u = 3 ∨ u = 4 ∨ u = 5 ∨ u = 6 ∨ u = 7 ∨ u = 8 ∨ u = 9 := by omega
   rcases this with h | h | h | h | h | h | h | h | h | h <;> subst h <;> decide
  ·rcases List.mem_append.1 hc with h | h
   ·exact ih _ (by omega) c h
   ·rw [List.mem_singleton] at h
    subst h
    have : u % 10 = 0 ∨ u % 10 = 1 ∨ u % 10 = 2 ∨ u % 10 = 3 ∨ u % 10 = 4 ∨ u % 10 = 5 ∨ u % 10 = 6 ∨ u % 10 = 7 ∨ u % 10 = 8 ∨ u % 10 = 9 := by omega
    rcases this with h | h | h | h | h | h | h | h | h | h <;> rw [h] <;> decide
theorem decDigits_pos (u : Nat) : 0 < (Lib.decDigits u).length := by
 rw [Lib.decDigits]
 split
 ·exact Nat.one_pos
 ·simp
theorem decDigits_len (d : Nat) : ∀ u : Nat, u < 10 ^ (d + 1) → (Lib.decDigits u).length ≤ d + 1 := by
 induction d with
 | zero =>
  intro u hu
  rw [Lib.decDigits, dif_pos (by omega)]
  exact Nat.le_refl _
 | succ d ih =>
  intro u hu
  rw [Lib.decDigits]
  split
  ·simp
  ·have := ih (u / 10) (by rw [Nat.pow_succ] at hu; omega)
   simp only [List.length_append, List.length_singleton]
   omega
def dec (n : Int) : List UInt8 := Lib.decDigits n.toNat
theorem dec_tok (n : Int) : Tok (dec n) := by
 have h := decDigits_isD n.toNat
 have h0 := decDigits_pos n.toNat
 unfold dec
 cases hd : Lib.decDigits n.toNat with
 | nil => rw [hd] at h0; simp at h0
 | cons c t => rw [hd] at h; exact .dig c t h
theorem dec_len {n : Int} (h0 : 0 ≤ n) (h : n ≤ 99999) : (dec n).length ≤ 5 := decDigits_len 4 n.toNat (by omega)
theorem dec_itoa {n : Int} (h : 0 ≤ n) : Lib.itoa n = dec n := by
 unfold Lib.itoa dec
 rw [if_neg (by omega)]
def lev (op : Int) : Int := if op ≤ 6 then op else if op = 7 then 6 else if op ≤ 9 then 7 else 8
def opB (op : Int) : List UInt8 := [[124], [94], [38], [61, 61], [60], [60, 60], [62, 62], [43], [45], [42], [47], [37]].getD (op - 1).toNat []
theorem opB_tok {op : Int} (h : 1 ≤ op ∧ op ≤ 12) : Tok (opB op) := by
 have : op = 1 ∨ op = 2 ∨ op = 3 ∨ op = 4 ∨ op = 5 ∨ op = 6 ∨ op = 7 ∨ op = 8 ∨ op = 9 ∨ op = 10 ∨ op = 11 ∨ op = 12 := by omega
 apply Tok.sym
 rcases this with h | h | h | h | h | h | h | h | h | h | h | h <;> subst h <;> decide
def varB (v : Int) : List UInt8 := [(97 + v).toNat.toUInt8]
theorem varB_tok {v : Int} (h : 0 ≤ v ∧ v < 4) : Tok (varB v) := by
 have : v = 0 ∨ v = 1 ∨ v = 2 ∨ v = 3 := by omega
 rcases this with h | h | h | h <;> subst h <;> exact .let_ _ _ (by decide)
def wrapT (l : List (List UInt8)) (b : Bool) : List (List UInt8) := if b = true then [40] :: (l ++ [[41]]) else l
namespace X
def lev : X → Int
 | num _ => 9
 | var _ => 9
 | bin op _ _ => PA.lev op
def toks : X → List (List UInt8)
 | num n => [dec n]
 | var v => [varB v]
 | bin op a b => wrapT a.toks (decide (a.lev < PA.lev op)) ++ opB op :: wrapT b.toks (decide (b.lev ≤ PA.lev op))
end X
theorem wrapT_tok {l : List (List UInt8)} {b : Bool} (h : ∀ t ∈ l, Tok t) : ∀ t ∈ wrapT l b, Tok t := by
 unfold wrapT
 split
 ·intro t ht
  rcases List.mem_cons.1 ht with h1 | h1
  ·subst h1
   exact .sym _ (by decide)
  ·rcases List.mem_append.1 h1 with h2 | h2
   ·exact h t h2
   ·rw [List.mem_singleton] at h2
    subst h2
    exact .sym _ (by decide)
 ·exact h
theorem toks_ne : ∀ x : X, x.toks ≠ []
 | .num _ => by simp [X.toks]
 | .var _ => by simp [X.toks]
 | .bin op a b => by simp [X.toks]
theorem toks_tok : ∀ x : X, x.ok → ∀ t ∈ x.toks, Tok t
 | .num n, h => by
  intro t ht
  rw [X.toks, List.mem_singleton] at ht
  subst ht
  exact dec_tok n
 | .var v, h => by
  intro t ht
  rw [X.toks, List.mem_singleton] at ht
  subst ht
  exact varB_tok h
 | .bin op a b, h => by
  intro t ht
  rw [X.toks] at ht
  rcases List.mem_append.1 ht with h1 | h1
  ·exact wrapT_tok (toks_tok a h.2.1) t h1
  ·rcases List.mem_cons.1 h1 with h2 | h2
   ·subst h2
    exact opB_tok h.1
   ·exact wrapT_tok (toks_tok b h.2.2) t h2
theorem wrapT_len (l : List (List UInt8)) (b : Bool) : (wrapT l b).length ≤ l.length + 2 := by
 unfold wrapT
 split
 ·simp
 ·omega
theorem toks_len : ∀ x : X, x.toks.length + 4 ≤ 5 * x.size
 | .num _ => by simp [X.toks, X.size]
 | .var _ => by simp [X.toks, X.size]
 | .bin op a b => by
  have h1 := wrapT_len a.toks (decide (a.lev < lev op))
  have h2 := wrapT_len b.toks (decide (b.lev ≤ lev op))
  have h3 := toks_len a
  have h4 := toks_len b
  rw [X.toks, List.length_append, List.length_cons, X.size]
  omega
end Go.Proofs.YtjamfkpgmkhbnaaDoor.PA

namespace Go.Proofs.YtjamfkpgmkhbnaaDoor.PA
open Go.RowKit Go.Proofs.YtjamfkpgmkhbnaaDoorW.PrintWords Go.Proofs.YtjamfkpgmkhbnaaDoorW.PrintMore Go.Proofs.YtjamfkpgmkhbnaaDoor.Core
theorem impl_isDigit_eq (c : UInt8) : impl_isDigit.f (c.toNat : Int) = some (isD c) := by
 unfold impl_isDigit.f isD
 by_cases h : ((c.toNat : Int)) ≥ 48
 ·rw [if_pos h, decide_eq_true (show 48 ≤ c.toNat by omega), Bool.true_and]
  congr 1
  exact decide_eq_decide.mpr (by omega)
 ·rw [if_neg h, decide_eq_false (show ¬ 48 ≤ c.toNat by omega), Bool.false_and]
theorem impl_isLetter_eq (c : UInt8) : impl_isLetter.f (c.toNat : Int) = some (isL c) := by
 unfold impl_isLetter.f isL
 by_cases h : ((c.toNat : Int)) ≥ 97
 ·rw [if_pos h, decide_eq_true (show 97 ≤ c.toNat by omega), Bool.true_and]
  congr 1
  exact decide_eq_decide.mpr (by omega)
 ·rw [if_neg h, decide_eq_false (show ¬ 97 ≤ c.toNat by omega), Bool.false_and]
def isM (m : Bool) (c : UInt8) : Bool := if m = true then isD c else isL c
theorem isM_eq (m : Bool) (c : UInt8) : (if m = true then impl_isDigit.f (c.toNat : Int) else impl_isLetter.f (c.toNat : Int)) = some (isM m c) := by
 cases m
 ·rw [if_neg Bool.false_ne_true, impl_isLetter_eq]
  rfl
 ·rw [if_pos rfl, impl_isDigit_eq]
  rfl
theorem l1_ev (l : List UInt8) (hl : l.length ≤ 1000000000) (m : Bool) : ∀ (d j : Nat), j + d = l.length → EvP (fun k => impl_tokenLength.l1 k (ba l) m (j : Int)) (· = ((j + ((l.drop j).takeWhile (isM m)).length : Nat) : Int))
  | 0, j, h => by
    refine EvP.step (fun k => impl_tokenLength.l1.eq_2 (k := k) ..) (EvP.no (by rw [ba_size]; omega) (EvP.ret ?_))
    rw [List.drop_eq_nil_of_le (by omega)]
    simp
  | d + 1, j, h => by
    have hj : j < l.length := by omega
    refine EvP.step (fun k => impl_tokenLength.l1.eq_2 (k := k) ..) (EvP.yes (by rw [ba_size]; omega) (EvP.yes (by omega) ?_))
    rw [ba_bt l j hj]
    refine EvP.bind0 (isM_eq m l[j]) ?_
    rw [List.drop_eq_getElem_cons hj]
    cases hm : isM m l[j] with
    | true =>
      refine EvP.yes rfl ?_
      rw [w64 (by omega) (by omega), show (j : Int) + 1 = ((j + 1 : Nat) : Int) by omega]
      refine (l1_ev l hl m d (j + 1) (by omega)).mono (fun a ha => ?_)
      rw [ha, List.takeWhile_cons, if_pos hm, List.length_cons]
      congr 1
      omega
    | false =>
      refine EvP.no Bool.false_ne_true (EvP.ret ?_)
      rw [List.takeWhile_cons, if_neg (by rw [hm]; exact Bool.false_ne_true)]
      simp
theorem l1_0 (l : List UInt8) (hl : l.length ≤ 1000000000) (m : Bool) : EvP (fun k => impl_tokenLength.l1 k (ba l) m 0) (· = ((l.takeWhile (isM m)).length : Int)) :=
  (l1_ev l hl m l.length 0 (by omega)).mono (fun a ha => by rw [ha]; simp)
theorem takeWhile_run {p : UInt8 → Bool} {t r : List UInt8} (ht : ∀ x ∈ t, p x = true) (hr : Rest r) (h32 : p 32 = false) : (t ++ r).takeWhile p = t := by
 rw [List.takeWhile_append_of_pos ht]
 rcases hr with rfl | ⟨q, rfl⟩
 ·simp
 ·rw [List.takeWhile_cons, if_neg (by rw [h32]; exact Bool.false_ne_true), List.append_nil]
theorem takeWhile_no {p : UInt8 → Bool} {c : UInt8} {t : List UInt8} (h : p c = false) : (c :: t).takeWhile p = [] := by
 rw [List.takeWhile_cons, if_neg (by rw [h]; exact Bool.false_ne_true)]
theorem isL_isD {c : UInt8} (h : isL c = true) : isD c = false := by
 unfold isL at h
 unfold isD
 simp only [Bool.and_eq_true, decide_eq_true_eq] at h
 rw [decide_eq_false (p := c.toNat ≤ 57) (by omega), Bool.and_false]
def pre2 (c : UInt8) : List UInt8 → Bool
 | a :: b :: _ => a == c && b == c
 | _ => false
theorem hasPrefix2 (l : List UInt8) (c : UInt8) (hl : l.length ≤ 1000000000) : strings_HasPrefix.f (ba l) ⟨#[c, c]⟩ = some (pre2 c l) := by
 unfold strings_HasPrefix.f stringslite_HasPrefix.f
 have hs : (⟨#[c, c]⟩ : ByteArray).size = 2 := rfl
 rw [hs, ba_size]
 by_cases h : (l.length : Int) ≥ ((2 : Nat) : Int)
 ·rw [if_pos h, if_pos (by omega), if_pos h]
  simp only [Option.bind_some]
  congr 1
  match l, h with
  | a :: b :: r, _ =>
   have e : (ba (a :: b :: r)).extract 0 (((2 : Nat) : Int) : Int).toNat = ba [a, b] := by
    rw [ba_extract]
    rfl
   rw [e, ba_toList, show (⟨#[c, c]⟩ : ByteArray) = ba [c, c] from rfl, ba_toList]
   simp [pre2]
  | [a], h => simp at h
  | [], h => simp at h
 ·rw [if_neg h]
  simp only [Option.bind_some]
  congr 1
  match l, h with
  | a :: b :: r, h => simp at h; omega
  | [a], _ => rfl
  | [], _ => rfl
theorem ba_ne (c : UInt8) (q : List UInt8) : ¬ (ba (c :: q)).toList = ([] : List UInt8) := by
 rw [ba_toList]
 simp
theorem ba_bt0 (c : UInt8) (q : List UInt8) : bt (ba (c :: q)) 0 = (c.toNat : Int) := ba_bt (c :: q) 0 (by simp)
theorem st2_sym (t r : List UInt8) (hl : (t ++ r).length ≤ 1000000000) (ht : t ∈ syms) (hr : Rest r) : impl_tokenLength.st2 (ba (t ++ r)) 0 = some (t.length : Int) := by
 simp only [impl_tokenLength.st2, impl_tokenLength.fin, hasPrefix2 _ _ hl, Option.bind_some]
 clear hl
 simp only [syms, List.mem_cons, List.not_mem_nil, or_false] at ht
 rcases hr with rfl | ⟨q, rfl⟩
 all_goals
  rcases ht with h | h | h | h | h | h | h | h | h | h | h | h | h | h | h | h | h | h <;> subst h
 all_goals
  simp only [List.cons_append, List.nil_append, List.append_nil]
 all_goals
  first
  | (simp [pre2]; done)
  | (rw [if_neg (by simp [pre2]), if_neg (by simp [pre2]), if_neg (by simp [pre2]), if_neg (ba_ne _ _), ba_bt0]; rfl)
theorem syms_no {t r : List UInt8} (ht : t ∈ syms) (m : Bool) : (t ++ r).takeWhile (isM m) = [] := by
 simp only [syms, List.mem_cons, List.not_mem_nil, or_false] at ht
 rcases ht with h | h | h | h | h | h | h | h | h | h | h | h | h | h | h | h | h | h <;> subst h <;> exact takeWhile_no (by cases m <;> decide)
theorem tokenLength_ev (t r : List UInt8) (hl : (t ++ r).length ≤ 1000000000) (ht : Tok t) (hr : Rest r) : EvP (fun k => impl_tokenLength.f k (ba (t ++ r))) (· = (t.length : Int)) := by
  have h0 := ht.pos
  show EvP (fun k => (impl_tokenLength.l1 k (ba (t ++ r)) true 0).bind fun d => if 0 < d then some d else (impl_tokenLength.l1 k (ba (t ++ r)) false 0).bind fun c => if 0 < c then some c else impl_tokenLength.st2 (ba (t ++ r)) 0) _
  refine EvP.bindEq (l1_0 _ hl true) ?_
  cases ht with
  | dig c t h =>
    rw [takeWhile_run (p := isM true) h hr (by decide)]
    exact EvP.yes (by omega) (EvP.ret rfl)
  | let_ c t h =>
    rw [List.cons_append, takeWhile_no (p := isM true) (isL_isD (h c (by simp))), ← List.cons_append]
    refine EvP.no (by simp) (EvP.bindEq (l1_0 _ hl false) ?_)
    rw [takeWhile_run (p := isM false) h hr (by decide)]
    exact EvP.yes (by omega) (EvP.ret rfl)
  | sym t h =>
    rw [syms_no h]
    refine EvP.no (by simp) (EvP.bindEq (l1_0 _ hl false) ?_)
    rw [syms_no h]
    exact EvP.no (by simp) (EvP.of (st2_sym t r hl h hr) rfl)
theorem TokenValid_ev (t : List UInt8) (hl : t.length ≤ 1000000000) (ht : Tok t) : EvP (fun k => impl_TokenValid.f k (ba t)) (· = true) := by
  unfold impl_TokenValid.f
  have h := tokenLength_ev t [] (by simpa using hl) ht (.inl rfl)
  rw [List.append_nil] at h
  have h0 := ht.pos
  refine EvP.no (by rw [ba_toList]; intro e; rw [e] at h0; simp at h0) (EvP.bindEq h (EvP.ret ?_))
  rw [ba_size]
  simp
theorem rdB (L : List (List UInt8)) (j : Nat) (h : j < L.length) : rdOf ByteArray.empty (L.map ba) (j : Int) = ba L[j] := by
 unfold rdOf
 rw [Int.toNat_natCast, List.getD_eq_getElem?_getD, List.getElem?_map, List.getElem?_eq_getElem h]
 rfl
theorem TokensText_l0 (L : List (List UInt8)) (hn : L.length ≤ 1000000) (hs : ∀ t ∈ L, t.length ≤ 1000000) (ht : ∀ t ∈ L, Tok t) (hj : (joinT L).length ≤ 1000000000) : ∀ (d j : Nat), j + d = L.length → EvP (fun k => impl_TokensText.l0 k (L.map ba) (L.map ba) ((L.map ba).length : Int) (j : Int)) (· = ba (joinT L))
  | 0, j, h => by
    refine EvP.step (fun k => impl_TokensText.l0.eq_2 (k := k) ..) (EvP.no (by rw [List.length_map]; omega) ?_)
    have e : strings_Join.f (L.map ba) (⟨#[32]⟩ : ByteArray) = some (ba (joinT L)) := by
      unfold strings_Join.f
      have e2 : joinB (L.map ba) (⟨#[32]⟩ : ByteArray) = joinT L := by
        unfold joinB
        rw [List.map_map, show ((fun x : ByteArray => x.data.toList) ∘ ba) = id from funext ba_data, List.map_id]
        exact joinT_lib L
      rw [e2, if_pos (by rw [List.length_map]; omega), if_pos (by omega)]
      rfl
    exact EvP.bind0 e (EvP.ret rfl)
  | d + 1, j, h => by
    have hj' : j < L.length := by omega
    refine EvP.step (fun k => impl_TokensText.l0.eq_2 (k := k) ..) (EvP.yes (by rw [List.length_map]; omega) (EvP.yes (by omega) (EvP.yes (by rw [List.length_map]; omega) ?_)))
    rw [rdB L j hj']
    refine EvP.bindEq (TokenValid_ev _ (by have := hs L[j] (by simp); omega) (ht L[j] (by simp))) (EvP.yes rfl ?_)
    rw [w64 (by omega) (by omega), show (j : Int) + 1 = ((j + 1 : Nat) : Int) by omega]
    exact TokensText_l0 L hn hs ht hj d (j + 1) (by omega)
theorem impl_TokensText_ev (L : List (List UInt8)) (hn : L.length ≤ 1000000) (hs : ∀ t ∈ L, t.length ≤ 1000000) (ht : ∀ t ∈ L, Tok t) (hj : (joinT L).length ≤ 1000000000) : EvP (fun k => impl_TokensText.f k (L.map ba)) (· = ba (joinT L)) :=
  TokensText_l0 L hn hs ht hj L.length 0 (by omega)
theorem kindD {c : UInt8} (h : isD c = true) : EvP (fun k => spec_l3Kind.f k (c.toNat : Int)) (· = 1) := by
  unfold isD at h
  simp only [Bool.and_eq_true, decide_eq_true_eq] at h
  unfold spec_l3Kind.f
  refine EvP.yes (by omega) (EvP.step (fun k => spec_l3Kind.j0.eq_2 (k := k) ..) (EvP.yes (by rw [decide_eq_true_eq]; omega) (EvP.ret rfl)))
theorem kindL {c : UInt8} (h : isL c = true) : EvP (fun k => spec_l3Kind.f k (c.toNat : Int)) (· = 2) := by
  unfold isL at h
  simp only [Bool.and_eq_true, decide_eq_true_eq] at h
  unfold spec_l3Kind.f
  refine EvP.yes (by omega) (EvP.step (fun k => spec_l3Kind.j0.eq_2 (k := k) ..) (EvP.no (by rw [decide_eq_true_eq]; omega) (EvP.yes (by omega) ?_)))
  exact EvP.step (fun k => spec_l3Kind.j1.eq_2 (k := k) ..) (EvP.yes (by rw [decide_eq_true_eq]; omega) (EvP.ret rfl))
theorem l3Run_l0 (t : List UInt8) (hl : t.length ≤ 1000000000) (h0 : 0 < t.length) (n : Int) (hk : ∀ x ∈ t, EvP (fun k => spec_l3Kind.f k (x.toNat : Int)) (· = n)) : ∀ (d j : Nat), j + d = t.length → EvP (fun k => spec_l3Run.l0 k (ba t) 0 (j : Int)) (· = (t.length : Int))
  | 0, j, h => EvP.step (fun k => spec_l3Run.l0.eq_2 (k := k) ..) (EvP.no (by rw [ba_size]; omega) (EvP.ret (by omega)))
  | d + 1, j, h => by
    have hj : j < t.length := by omega
    refine EvP.step (fun k => spec_l3Run.l0.eq_2 (k := k) ..) (EvP.yes (by rw [ba_size]; omega) (EvP.yes (by omega) ?_))
    rw [ba_bt t j hj, show bt (ba t) 0 = (t[0].toNat : Int) from ba_bt t 0 h0]
    refine EvP.bindEq (hk _ (by simp)) (EvP.yes (by omega) (EvP.yes (by rw [ba_size]; omega) (EvP.bindEq (hk _ (by simp)) (EvP.yes rfl ?_))))
    rw [w64 (by omega) (by omega), show (j : Int) + 1 = ((j + 1 : Nat) : Int) by omega]
    exact l3Run_l0 t hl h0 n hk d (j + 1) (by omega)
theorem l3End_sym (t : List UInt8) (h : t ∈ syms) : EvP (fun k => spec_l3End.f k (ba t) 0) (· = (t.length : Int)) := by
  refine Ev.evp (Ev.of (spec_l3End.mono _ _) (k := 60) ?_)
  simp only [syms, List.mem_cons, List.not_mem_nil, or_false] at h
  rcases h with h | h | h | h | h | h | h | h | h | h | h | h | h | h | h | h | h | h <;> subst h <;> kernel_rfl
theorem l3End_ev (t : List UInt8) (hl : t.length ≤ 1000000000) (ht : Tok t) : EvP (fun k => spec_l3End.f k (ba t) 0) (· = (t.length : Int)) := by
  have h0 := ht.pos
  cases ht with
  | dig c t h =>
    unfold spec_l3End.f
    refine EvP.yes (by omega) (EvP.yes (by rw [ba_size]; omega) ?_)
    rw [ba_bt0]
    refine EvP.bindEq (kindD (h c (by simp))) (EvP.yes rfl (EvP.step (fun k => spec_l3End.j0.eq_2 (k := k) ..) (EvP.yes rfl (EvP.bindEq ?_ (EvP.ret rfl)))))
    exact l3Run_l0 (c :: t) hl h0 1 (fun x hx => kindD (h x hx)) (c :: t).length 0 (by omega)
  | let_ c t h =>
    unfold spec_l3End.f
    refine EvP.yes (by omega) (EvP.yes (by rw [ba_size]; omega) ?_)
    rw [ba_bt0]
    refine EvP.bindEq (kindL (h c (by simp))) (EvP.no (by omega) (EvP.step (fun k => spec_l3End.j0.eq_2 (k := k) ..) (EvP.yes rfl (EvP.bindEq ?_ (EvP.ret rfl)))))
    exact l3Run_l0 (c :: t) hl h0 2 (fun x hx => kindL (h x hx)) (c :: t).length 0 (by omega)
  | sym t h => exact l3End_sym t h
theorem spec_TokenValid_ev (t : List UInt8) (hl : t.length ≤ 1000000000) (ht : Tok t) : EvP (fun k => spec_TokenValid.f k (ba t)) (· = true) := by
  unfold spec_TokenValid.f
  have h0 := ht.pos
  refine EvP.no (by rw [ba_toList]; intro e; rw [e] at h0; simp at h0) (EvP.bindEq (l3End_ev t hl ht) (EvP.ret ?_))
  rw [ba_size]
  simp
theorem joinT_snoc {l : List (List UInt8)} (h : l ≠ []) (x : List UInt8) : joinT (l ++ [x]) = joinT l ++ 32 :: x := joinT_append h (by simp)
theorem joinT_take_len (L : List (List UInt8)) : ∀ j : Nat, (joinT (L.take j)).length ≤ (joinT L).length := by
 induction L with
 | nil => intro j; simp
 | cons x r ih =>
  intro j
  cases j with
  | zero => simp [joinT]
  | succ j =>
   rw [List.take_succ_cons]
   cases r with
   | nil => simp [joinT]
   | cons y q =>
    cases j with
    | zero => simp [joinT]
    | succ j =>
     have := ih (j + 1)
     rw [joinT_cons x (by simp), joinT_cons x (by simp)]
     simp only [List.length_append, List.length_cons] at this ⊢
     omega
theorem specText_l0 (L : List (List UInt8)) (hn : L.length ≤ 1000000) (hs : ∀ t ∈ L, t.length ≤ 1000000) (ht : ∀ t ∈ L, Tok t) (hj : (joinT L).length ≤ 1000000000) : ∀ (d j : Nat), j + d = L.length → EvP (fun k => spec_TokensText.l0 k (L.map ba) (ba (joinT (L.take j))) (j : Int)) (· = ba (joinT L))
  | 0, j, h => EvP.step (fun k => spec_TokensText.l0.eq_2 (k := k) ..) (EvP.no (by rw [List.length_map]; omega) (EvP.ret (by rw [List.take_of_length_le (by omega)])))
  | d + 1, j, h => by
    have hj' : j < L.length := by omega
    have h1 := joinT_take_len L j
    have h2 := hs L[j] (by simp)
    refine EvP.step (fun k => spec_TokensText.l0.eq_2 (k := k) ..) (EvP.yes (by rw [List.length_map]; omega) (EvP.yes (by omega) ?_))
    rw [rdB L j hj']
    refine EvP.bindEq (spec_TokenValid_ev _ (by omega) (ht L[j] (by simp))) (EvP.yes rfl ?_)
    have e1 : L.take (j + 1) = L.take j ++ [L[j]] := by rw [List.take_succ_eq_append_getElem hj']
    have ih := specText_l0 L hn hs ht hj d (j + 1) (by omega)
    rw [show ((j + 1 : Nat) : Int) = wrap64 ((j : Int) + 1) by rw [w64 (by omega) (by omega)]; omega] at ih
    refine EvP.ite (fun hp => ?_) (fun hp => ?_)
    · refine EvP.yes (by rw [ba_size]; omega) ?_
      rw [show (⟨#[32]⟩ : ByteArray) = ba [32] from rfl, ba_append]
      refine EvP.yes (by rw [ba_size, ba_size, List.length_append]; show _ + 1 + _ ≤ _; omega) ?_
      rw [ba_append]
      have e2 : joinT (L.take j) ++ [32] ++ L[j] = joinT (L.take (j + 1)) := by
        rw [e1, joinT_snoc (by intro e; have := congrArg List.length e; rw [List.length_take, List.length_nil] at this; omega)]
        simp
      rw [e2]
      exact ih
    · have hj0 : j = 0 := by omega
      subst hj0
      refine EvP.yes (by rw [ba_size, ba_size]; omega) ?_
      rw [ba_append]
      have e2 : joinT (L.take 0) ++ L[0] = joinT (L.take (0 + 1)) := by
        rw [e1]
        rfl
      rw [e2]
      exact ih
theorem spec_TokensText_ev (L : List (List UInt8)) (hn : L.length ≤ 1000000) (hs : ∀ t ∈ L, t.length ≤ 1000000) (ht : ∀ t ∈ L, Tok t) (hj : (joinT L).length ≤ 1000000000) : EvP (fun k => spec_TokensText.f k (L.map ba)) (· = ba (joinT L)) :=
  specText_l0 L hn hs ht hj L.length 0 (by omega)
def emb : X → S29
 | .num n => ⟨0, n, []⟩
 | .var v => ⟨13, v, []⟩
 | .bin op a b => ⟨op, 0, [emb a, emb b]⟩
theorem rdE_0 (a b : S29) : rd_T29 [a, b] 0 = a := rfl
theorem rdE_1 (a b : S29) : rd_T29 [a, b] 1 = b := rfl
theorem etaE (a : S29) : (⟨a.f0, a.f1, a.f2⟩ : S29) = a := by
 cases a
 rfl
def vx : Nat → Int → Int → List S29 → Bool
 | 0, _, _, _ => false
 | d + 1, op, n, l =>
  if op = 0 then decide (0 ≤ n) && (decide (n ≤ 99999) && decide (l.length = 0))
  else if op = 13 then decide (0 ≤ n) && (decide (n < 4) && decide (l.length = 0))
  else decide (1 ≤ op) && (decide (op ≤ 12) && (decide (n = 0) && (match l with
   | [a, b] => vx d a.f0 a.f1 a.f2 && vx d b.f0 b.f1 b.f2
   | _ => false)))
theorem two_of {α : Type} {l : List α} (h : l.length = 2) : ∃ a b, l = [a, b] := by
 match l, h with
 | [a, b], _ => exact ⟨a, b, rfl⟩
theorem vx_tree : ∀ (d : Nat) (op n : Int) (l : List S29), vx d op n l = true → ∃ x : X, x.ok ∧ x.depth ≤ d ∧ emb x = ⟨op, n, l⟩
 | 0, _, _, _, h => by cases h
 | d + 1, op, n, l, h => by
  unfold vx at h
  by_cases h0 : op = 0
  ·rw [if_pos h0] at h
   simp only [Bool.and_eq_true, decide_eq_true_eq] at h
   subst h0
   exact ⟨.num n, ⟨h.1, h.2.1⟩, by simp [X.depth], by rw [emb, List.eq_nil_of_length_eq_zero h.2.2]⟩
  ·rw [if_neg h0] at h
   by_cases h13 : op = 13
   ·rw [if_pos h13] at h
    simp only [Bool.and_eq_true, decide_eq_true_eq] at h
    subst h13
    exact ⟨.var n, ⟨h.1, h.2.1⟩, by simp [X.depth], by rw [emb, List.eq_nil_of_length_eq_zero h.2.2]⟩
   ·rw [if_neg h13] at h
    simp only [Bool.and_eq_true, decide_eq_true_eq] at h
    obtain ⟨h1, h2, h3, h4⟩ := h
    split at h4
    ·rename_i a b
     simp only [Bool.and_eq_true] at h4
     obtain ⟨x, x1, x2, x3⟩ := vx_tree d a.f0 a.f1 a.f2 h4.1
     obtain ⟨y, y1, y2, y3⟩ := vx_tree d b.f0 b.f1 b.f2 h4.2
     exact ⟨.bin op x y, ⟨⟨h1, h2⟩, x1, y1⟩, by simp only [X.depth]; omega, by rw [emb, x3, y3, h3, etaE, etaE]⟩
    ·cases h4
theorem vx_emb : ∀ (x : X) (d : Nat), x.ok → (vx d (emb x).f0 (emb x).f1 (emb x).f2 = decide (x.depth ≤ d))
 | x, 0, _ => by
  have := X.one_le_depth x
  rw [decide_eq_false (by omega)]
  rfl
 | .num n, d + 1, h => by
  have h : 0 ≤ n ∧ n ≤ 99999 := h
  simp [vx, emb, X.depth, h.1, h.2]
 | .var v, d + 1, h => by
  have h : 0 ≤ v ∧ v < 4 := h
  simp [vx, emb, X.depth, h.1, h.2]
 | .bin op a b, d + 1, h => by
  have h1 := h.1
  have ha := vx_emb a d h.2.1
  have hb := vx_emb b d h.2.2
  have e0 : ¬ (op = 0) := by omega
  have e13 : ¬ (op = 13) := by omega
  have e : (X.bin op a b).depth = max a.depth b.depth + 1 := rfl
  show (if op = 0 then _ else if op = 13 then _ else decide (1 ≤ op) && (decide (op ≤ 12) && (true && (vx d (emb a).f0 (emb a).f1 (emb a).f2 && vx d (emb b).f0 (emb b).f1 (emb b).f2)))) = _
  rw [if_neg e0, if_neg e13, decide_eq_true h1.1, decide_eq_true h1.2, ha, hb, e, Bool.true_and, Bool.true_and, Bool.true_and, Bool.eq_iff_iff]
  simp only [Bool.and_eq_true, decide_eq_true_eq]
  omega
theorem impl_OpValid_eq (a : Int) : impl_OpValid.f a = some (decide (1 ≤ a) && decide (a ≤ 12)) := by
 unfold impl_OpValid.f
 by_cases h : a ≥ 1
 ·rw [if_pos h, decide_eq_true h, Bool.true_and]
 ·rw [if_neg h, decide_eq_false h, Bool.false_and]
theorem spec_OpValid_eq (a : Int) : spec_OpValid.f a = some (decide (1 ≤ a) && decide (a ≤ 12)) := by
 unfold spec_OpValid.f
 rw [l6In_eq]
 rfl
theorem impl_exprValid_ev : ∀ (d : Nat) (op n : Int) (l : List S29), d ≤ 1000 → EvP (fun k => impl_exprValid.f k op n l (d : Int)) (· = vx d op n l)
  | 0, op, n, l, hd => by
    refine EvP.step (fun k => impl_exprValid.f.eq_2 (k := k) ..) ?_
    refine EvP.ite (fun h => ?_) (fun h => ?_)
    · refine EvP.ite (fun _ => EvP.ite (fun _ => EvP.ite (fun _ => EvP.ret ?_) (fun _ => EvP.ret ?_)) (fun _ => EvP.ret ?_)) (fun _ => EvP.ret ?_) <;> simp [vx]
    · refine EvP.ite (fun h => ?_) (fun h => ?_)
      · refine EvP.ite (fun _ => EvP.ite (fun _ => EvP.ite (fun _ => EvP.ret ?_) (fun _ => EvP.ret ?_)) (fun _ => EvP.ret ?_)) (fun _ => EvP.ret ?_) <;> simp [vx]
      · refine EvP.bind0 (impl_OpValid_eq op) (EvP.ite (fun _ => EvP.ite (fun _ => EvP.ite (fun _ => EvP.no (by omega) (EvP.ret ?_)) (fun _ => EvP.ret ?_)) (fun _ => EvP.ret ?_)) (fun _ => EvP.ret ?_)) <;> simp [vx]
  | d + 1, op, n, l, hd => by
    refine EvP.step (fun k => impl_exprValid.f.eq_2 (k := k) ..) ?_
    unfold vx
    refine EvP.ite (fun h => ?_) (fun h => ?_)
    · rw [if_pos h]
      refine EvP.ite (fun h1 => EvP.ite (fun h2 => EvP.ite (fun h3 => EvP.ret ?_) (fun h3 => EvP.ret ?_)) (fun h2 => EvP.ret ?_)) (fun h1 => EvP.ret ?_)
      · rw [decide_eq_true (show 0 ≤ n from h1), decide_eq_true h2, decide_eq_true (show l.length = 0 by omega)]
        simp
      · rw [decide_eq_false (p := l.length = 0) (by omega)]
        simp
      · rw [decide_eq_false h2]
        simp
      · rw [decide_eq_false (p := 0 ≤ n) h1]
        simp
    · rw [if_neg h]
      refine EvP.ite (fun h => ?_) (fun h13 => ?_)
      · rw [if_pos h]
        refine EvP.ite (fun h1 => EvP.ite (fun h2 => EvP.ite (fun h3 => EvP.ret ?_) (fun h3 => EvP.ret ?_)) (fun h2 => EvP.ret ?_)) (fun h1 => EvP.ret ?_)
        · rw [decide_eq_true (show 0 ≤ n from h1), decide_eq_true h2, decide_eq_true (show l.length = 0 by omega)]
          simp
        · rw [decide_eq_false (p := l.length = 0) (by omega)]
          simp
        · rw [decide_eq_false h2]
          simp
        · rw [decide_eq_false (p := 0 ≤ n) h1]
          simp
      · rw [if_neg h13]
        refine EvP.bind0 (impl_OpValid_eq op) (EvP.ite (fun h1 => ?_) (fun h1 => EvP.ret ?_))
        · simp only [Bool.and_eq_true, decide_eq_true_eq] at h1
          rw [decide_eq_true h1.1, decide_eq_true h1.2]
          refine EvP.ite (fun h2 => ?_) (fun h2 => EvP.ret (by rw [decide_eq_false h2]; rfl))
          rw [decide_eq_true h2]
          refine EvP.ite (fun h3 => ?_) (fun h3 => EvP.ret ?_)
          · obtain ⟨a, b, rfl⟩ := two_of (show l.length = 2 by omega)
            refine EvP.ite (fun h4 => ?_) (fun h4 => EvP.ret ?_)
            · rw [w64 (by omega) (by omega), show ((d + 1 : Nat) : Int) - 1 = (d : Int) by omega, rdE_0, rdE_1]
              refine EvP.yes (by simp) (EvP.bindEq (impl_exprValid_ev d _ _ _ (by omega)) (EvP.ite (fun h5 => ?_) (fun h5 => EvP.ret ?_)))
              · refine EvP.yes (by simp) (EvP.bindEq (impl_exprValid_ev d _ _ _ (by omega)) (EvP.ret ?_))
                simp [h5]
              · simp [h5]
            · have hd0 : d = 0 := by omega
              subst hd0
              rfl
          · split
            · simp at h3
            · rfl
        · symm
          rw [Bool.eq_false_iff]
          intro e
          simp only [Bool.and_eq_true, decide_eq_true_eq] at e h1
          exact h1 ⟨e.1, e.2.1⟩
theorem spec_l4Ok_ev : ∀ (d : Nat) (op n : Int) (l : List S29), d ≤ 1000 → EvP (fun k => spec_l4Ok.f k op n l (d : Int)) (· = vx d op n l)
  | 0, op, n, l, hd => EvP.step (fun k => spec_l4Ok.f.eq_2 (k := k) ..) (EvP.yes (by omega) (EvP.ret rfl))
  | d + 1, op, n, l, hd => by
    have hlen : ((l.length : Int) == 0) = decide (l.length = 0) := by
      rw [Bool.eq_iff_iff, beq_iff_eq, decide_eq_true_eq]
      omega
    refine EvP.step (fun k => spec_l4Ok.f.eq_2 (k := k) ..) (EvP.no (by omega) ?_)
    unfold vx
    refine EvP.ite (fun h => ?_) (fun h => ?_)
    · rw [if_pos h, l6In_eq]
      refine EvP.bind0 rfl (EvP.ite (fun h1 => EvP.ret ?_) (fun h1 => EvP.ret ?_))
      · rw [hlen]
        simp only [Bool.and_eq_true, decide_eq_true_eq] at h1
        rw [decide_eq_true h1.1, decide_eq_true h1.2]
        rfl
      · rw [← Bool.and_assoc, Bool.eq_false_iff.mpr h1]
        rfl
    · rw [if_neg h]
      refine EvP.ite (fun h => ?_) (fun h13 => ?_)
      · rw [if_pos h, l6In_eq]
        have e3 : decide (n < 4) = decide (n ≤ 3) := decide_eq_decide.mpr (by omega)
        rw [e3]
        refine EvP.bind0 rfl (EvP.ite (fun h1 => EvP.ret ?_) (fun h1 => EvP.ret ?_))
        · rw [hlen]
          simp only [Bool.and_eq_true, decide_eq_true_eq] at h1
          rw [decide_eq_true h1.1, decide_eq_true h1.2]
          rfl
        · rw [← Bool.and_assoc, Bool.eq_false_iff.mpr h1]
          rfl
      · rw [if_neg h13]
        refine EvP.bind0 (spec_OpValid_eq op) (EvP.ite (fun h1 => ?_) (fun h1 => EvP.ret ?_))
        · simp only [Bool.and_eq_true, decide_eq_true_eq] at h1
          rw [decide_eq_true h1.1, decide_eq_true h1.2]
          refine EvP.ite (fun h2 => ?_) (fun h2 => EvP.ret (by rw [decide_eq_false h2]; rfl))
          rw [decide_eq_true h2]
          refine EvP.ite (fun h3 => ?_) (fun h3 => EvP.ret ?_)
          · obtain ⟨a, b, rfl⟩ := two_of (show l.length = 2 by omega)
            rw [w64 (by omega) (by omega), show ((d + 1 : Nat) : Int) - 1 = (d : Int) by omega, rdE_0, rdE_1]
            refine EvP.yes (by simp) (EvP.bindEq (spec_l4Ok_ev d _ _ _ (by omega)) (EvP.ite (fun h5 => ?_) (fun h5 => EvP.ret ?_)))
            · refine EvP.yes (by simp) (EvP.bindEq (spec_l4Ok_ev d _ _ _ (by omega)) (EvP.ret ?_))
              simp [h5]
            · simp [h5]
          · split
            · simp at h3
            · rfl
        · rw [← Bool.and_assoc, Bool.eq_false_iff.mpr h1]
          rfl
theorem spec_ExprValid_ev (op n : Int) (l : List S29) : EvP (fun k => spec_ExprValid.f k op n l) (· = vx 5 op n l) := by
  unfold spec_ExprValid.f
  exact EvP.bindEq (spec_l4Ok_ev 5 op n l (by omega)) (EvP.ret rfl)
theorem impl_ExprValid_ev (op n : Int) (l : List S29) : EvP (fun k => impl_ExprValid.f k op n l) (· = vx 5 op n l) := by
  unfold impl_ExprValid.f
  exact EvP.bindEq (impl_exprValid_ev 5 op n l (by omega)) (EvP.ret rfl)
theorem exprSize_0 (d : Int) : EvP (fun k => impl_exprSize.l0 k d ([] : List S29) (([] : List S29).length : Int) 0) (· = d) :=
  EvP.step (fun k => impl_exprSize.l0.eq_2 (k := k) ..) (EvP.no (by simp) (EvP.ret rfl))
theorem impl_exprSize_ev : ∀ x : X, x.size ≤ 1000000 → EvP (fun k => impl_exprSize.f k (emb x).f0 (emb x).f1 (emb x).f2) (· = (x.size : Int))
  | .num n, h => EvP.step (fun k => impl_exprSize.f.eq_2 (k := k) ..) (exprSize_0 1)
  | .var v, h => EvP.step (fun k => impl_exprSize.f.eq_2 (k := k) ..) (exprSize_0 1)
  | .bin op a b, h => by
    have e : (X.bin op a b).size = a.size + b.size + 1 := rfl
    refine EvP.step (fun k => impl_exprSize.f.eq_2 (k := k) ..) ?_
    simp only [emb, List.length_cons, List.length_nil]
    refine EvP.step (fun k => impl_exprSize.l0.eq_2 (k := k) ..) (EvP.yes (by omega) (EvP.yes (by omega) (EvP.yes (by simp) ?_)))
    rw [rdE_0]
    refine EvP.bindEq (impl_exprSize_ev a (by omega)) ?_
    rw [w64 (n := 0 + 1) (by omega) (by omega), w64 (n := 1 + (a.size : Int)) (by omega) (by omega), show (0 : Int) + 1 = 1 from rfl]
    refine EvP.step (fun k => impl_exprSize.l0.eq_2 (k := k) ..) (EvP.yes (by omega) (EvP.yes (by omega) (EvP.yes (by simp) ?_)))
    rw [rdE_1]
    refine EvP.bindEq (impl_exprSize_ev b (by omega)) ?_
    rw [w64 (n := 1 + 1) (by omega) (by omega), w64 (n := 1 + (a.size : Int) + (b.size : Int)) (by omega) (by omega), show (1 : Int) + 1 = 2 from rfl]
    refine EvP.step (fun k => impl_exprSize.l0.eq_2 (k := k) ..) (EvP.no (by omega) (EvP.ret ?_))
    omega
theorem size_32 (x : X) (hd : x.depth ≤ 5) : x.size ≤ 31 := by
 have h1 := X.size_depth x
 have h2 : 2 ^ x.depth ≤ 2 ^ 5 := Nat.pow_le_pow_right (by omega) hd
 omega
theorem impl_ExprSize_yes (x : X) (hx : x.ok) (hd : x.depth ≤ 5) : EvP (fun k => impl_ExprSize.f k (emb x).f0 (emb x).f1 (emb x).f2) (· = (x.size : Int)) := by
  have := size_32 x hd
  unfold impl_ExprSize.f
  refine EvP.bindEq (impl_ExprValid_ev _ _ _) (EvP.yes (by rw [vx_emb x 5 hx]; exact decide_eq_true hd) ?_)
  exact EvP.bindEq (impl_exprSize_ev x (by omega)) (EvP.ret rfl)
end Go.Proofs.YtjamfkpgmkhbnaaDoor.PA

namespace Go.Proofs.YtjamfkpgmkhbnaaDoor.PA
open Go.RowKit Go.Proofs.YtjamfkpgmkhbnaaDoorW.PrintWords Go.Proofs.YtjamfkpgmkhbnaaDoor.Core
theorem xor_nonneg (x y : Int) (hx : 0 ≤ x) (hx1 : x < 4611686018427387904) (hy : 0 ≤ y) (hy1 : y < 4611686018427387904) : 0 ≤ Go.bits .xor .i64 x y := by
 obtain ⟨a, rfl⟩ := Int.eq_ofNat_of_zero_le hx
 obtain ⟨b, rfl⟩ := Int.eq_ofNat_of_zero_le hy
 have ha : a < 2 ^ 62 := by omega
 have hb : b < 2 ^ 62 := by omega
 have hx := Nat.xor_lt_two_pow ha hb
 simp only [Go.bits, BitVec.ofInt_natCast, BitVec.toNat_xor, BitVec.toNat_ofNat]
 rw [show IntKind.i64.bits = 64 from rfl, Nat.mod_eq_of_lt (a := a) (by omega), Nat.mod_eq_of_lt (a := b) (by omega), IntKind.wrap_i64]
 omega
def Bytes (b : List Int) : Prop := b.length ≤ 2000 ∧ ∀ x ∈ b, 0 ≤ x ∧ x ≤ 255
theorem Bytes.rd {b : List Int} (h : Bytes b) (i : Int) (h0 : 0 ≤ i) (h1 : i < b.length) : 0 ≤ Go.Proofs.YtjamfkpgmkhbnaaDoorW.PrintWords.rd b i ∧ Go.Proofs.YtjamfkpgmkhbnaaDoorW.PrintWords.rd b i ≤ 255 := h.2 _ (rd_mem b i h0 h1)
theorem open_bytes (l : List Int) (hl : l.length ≤ 140737488351232) (hw : ∀ x ∈ l, (Lit.int .u8 x).wf = true) : ∃ b, spec_l6Open.f l = some (b, 0) ∧ Bytes b := by
 have hb : ∀ x ∈ l, 0 ≤ x ∧ x ≤ 255 := by
  intro x hx
  have h := hw x hx
  simp only [Lit.wf, Bool.and_eq_true, decide_eq_true_eq] at h
  have e1 : IntKind.u8.min = 0 := by decide
  have e2 : IntKind.u8.max = 255 := by decide
  omega
 unfold spec_l6Open.f
 by_cases h : (l.length : Int) > 2000
 ·rw [if_pos h, if_pos (by omega)]
  exact ⟨_, rfl, by rw [List.length_take]; omega, fun x hx => hb x (List.mem_of_mem_take hx)⟩
 ·rw [if_neg h]
  exact ⟨_, rfl, by omega, hb⟩
def Picked (p n : Int) (r : Int × Int) : Prop := r.2 = p + 1 ∧ 0 ≤ r.1 ∧ (1 ≤ n → r.1 < n) ∧ (n < 1 → r.1 = 0)
theorem pick_ev (b : List Int) (hb : Bytes b) (p n : Int) (h0 : 0 ≤ p) (h1 : p ≤ 1000000000000) : EvP (fun k => spec_l6Rd_pick.f k b p n) (Picked p n) := by
 unfold spec_l6Rd_pick.f
 rw [w64 (n := p + 1) (by omega) (by omega)]
 have hz : EvP (fun k => spec_l6Rd_pick.j0 k n true b (p + 1)) (fun r => r.2 = p + 1 ∧ r.1 = 0) :=
  EvP.step (fun k => spec_l6Rd_pick.j0.eq_2 (k := k) ..) (EvP.yes rfl (EvP.ret ⟨rfl, rfl⟩))
 refine EvP.ite (fun h => ?_) (fun h => ?_)
 ·exact hz.mono fun r hr => ⟨hr.1, by omega, fun _ => by omega, fun _ => hr.2⟩
 ·cases hl : ((b.length : Int) == 0) with
  | true => exact hz.mono fun r hr => ⟨hr.1, by omega, fun _ => by omega, fun _ => hr.2⟩
  | false =>
   have hl' : (b.length : Int) ≠ 0 := by simpa using hl
   have hbl := hb.1
   refine EvP.step (fun k => spec_l6Rd_pick.j0.eq_2 (k := k) ..) (EvP.no (by decide) ?_)
   rw [w64 (n := p + 1 - 1) (by omega) (by omega), show p + 1 - 1 = p by omega]
   refine EvP.ite (fun h2 => ?_) (fun h2 => ?_)
   ·refine EvP.yes h0 (EvP.no (by omega) (EvP.ret ?_))
    have hr := hb.rd p h0 h2
    rw [w64 (by omega) (by omega)]
    have ht := tm_range hr.1 (show 0 < n by omega)
    exact ⟨rfl, ht.1, fun _ => ht.2, fun _ => by omega⟩
   ·have t1 := tm_range h0 (show (0 : Int) < b.length by omega)
    have t2 := tm_range (show 0 ≤ p * 7 + 3 by omega) (show (0 : Int) < b.length by omega)
    rw [w64 (n := p * 7) (by omega) (by omega), w64 (n := p * 7 + 3) (by omega) (by omega)]
    refine EvP.no hl' (EvP.yes t1.1 (EvP.yes t1.2 (EvP.yes t2.1 (EvP.yes t2.2 (EvP.no (by omega) (EvP.ret ?_))))))
    have r1 := hb.rd _ t1.1 t1.2
    have r2 := hb.rd _ t2.1 t2.2
    have hd0 : 0 ≤ Int.tdiv p b.length := Int.tdiv_nonneg h0 (by omega)
    have hd1 : Int.tdiv p b.length ≤ p := by
     rw [Int.tdiv_eq_ediv_of_nonneg h0]
     exact Int.ediv_le_self _ h0
    generalize Go.Proofs.YtjamfkpgmkhbnaaDoorW.PrintWords.rd b (Int.tmod p b.length) = x1 at *
    generalize Go.Proofs.YtjamfkpgmkhbnaaDoorW.PrintWords.rd b (Int.tmod (p * 7 + 3) b.length) = x2 at *
    generalize Int.tdiv p b.length = q at *
    simp only [w64 (n := x1) (by omega) (by omega), w64 (n := x2) (by omega) (by omega), w64 (n := q) (by omega) (by omega)]
    simp only [w64 (n := x1 * 131) (by omega) (by omega), w64 (n := x2 * 1117) (by omega) (by omega), w64 (n := p * 29) (by omega) (by omega), w64 (n := q * 53) (by omega) (by omega)]
    simp only [w64 (n := x1 * 131 + x2 * 1117) (by omega) (by omega)]
    simp only [w64 (n := x1 * 131 + x2 * 1117 + p * 29) (by omega) (by omega)]
    simp only [w64 (n := x1 * 131 + x2 * 1117 + p * 29 + q * 53) (by omega) (by omega)]
    have hs0 : 0 ≤ x1 * 131 + x2 * 1117 + p * 29 + q * 53 := by omega
    have hs1 : x1 * 131 + x2 * 1117 + p * 29 + q * 53 < 1000000000000000 := by omega
    generalize x1 * 131 + x2 * 1117 + p * 29 + q * 53 = s at *
    have hv0 : 0 ≤ Int.tdiv s 64 := Int.tdiv_nonneg hs0 (by omega)
    have hv1 : Int.tdiv s 64 ≤ s := by
     rw [Int.tdiv_eq_ediv_of_nonneg hs0]
     exact Int.ediv_le_self _ hs0
    rw [w64 (n := Int.tdiv s 64) (by omega) (by omega)]
    have hx := xor_nonneg s (Int.tdiv s 64) hs0 (by omega) hv0 (by omega)
    have ht := tm_range hx (show 0 < n by omega)
    exact ⟨rfl, ht.1, fun _ => ht.2, fun _ => by omega⟩
theorem pick_then {β : Type} {b : List Int} (hb : Bytes b) {p n : Int} (h0 : 0 ≤ p) (h1 : p ≤ 1000000000000) {f : Nat → Int × Int → Option β} {R : β → Prop}
  (k : ∀ v, 0 ≤ v → (1 ≤ n → v < n) → (n < 1 → v = 0) → EvP (fun m => f m (v, p + 1)) R) : EvP (fun m => (spec_l6Rd_pick.f m b p n).bind (f m)) R :=
 EvP.bind (pick_ev b hb p n h0 h1) (fun r hr => by
  obtain ⟨v, q⟩ := r
  obtain ⟨e, k0, k1, k2⟩ := hr
  obtain rfl : q = p + 1 := e
  exact k v k0 k1 k2)
theorem l91Op_ev (b : List Int) (hb : Bytes b) (p : Int) (h0 : 0 ≤ p) (h1 : p ≤ 900000000000) : EvP (fun k => spec_l91Op.f k b p) (fun r => r.2 = p + 1 ∧ 1 ≤ r.1 ∧ r.1 ≤ 12) := by
 unfold spec_l91Op.f
 refine pick_then hb h0 (by omega) fun v v0 v1 _ => ?_
 have := v1 (by omega)
 dsimp only
 rw [w64 (by omega) (by omega)]
 exact EvP.ret (by dsimp only; omega)
theorem l91Leaf_ev (b : List Int) (hb : Bytes b) (p : Int) (h0 : 0 ≤ p) (h1 : p ≤ 900000000000) : EvP (fun k => spec_l91Leaf.f k b p) (fun r => p ≤ r.2.2.2 ∧ r.2.2.2 ≤ p + 2 ∧ r.2.2.1.length = 0) := by
 unfold spec_l91Leaf.f
 refine pick_then hb h0 (by omega) fun v v0 v1 _ => ?_
 dsimp only
 refine EvP.ite (fun h => ?_) (fun h => ?_)
 ·refine pick_then hb (by omega) (by omega) fun v2 w0 w1 _ => ?_
  exact EvP.bind0 rfl (EvP.ret (by simp; omega))
 ·refine EvP.ite (fun h => ?_) (fun h => ?_)
  ·refine EvP.bind0 rfl (pick_then hb (by omega) (by omega) fun v2 w0 w1 _ => ?_)
   have := w1 (by omega)
   exact EvP.yes w0 (EvP.yes (by simp; omega) (EvP.bind0 rfl (EvP.ret (by simp; omega))))
  ·refine pick_then hb (by omega) (by omega) fun v2 w0 w1 _ => ?_
   exact EvP.bind0 rfl (EvP.ret (by simp; omega))
theorem l91Expr_ev (b : List Int) (hb : Bytes b) : ∀ (d : Nat) (p : Int), d ≤ 10 → 0 ≤ p → p + 4 ^ (d + 1) ≤ 800000000000 → EvP (fun k => spec_l91Expr.f k b p (d : Int)) (fun r => p ≤ r.2.2.2 ∧ r.2.2.2 ≤ p + 4 ^ (d + 1) ∧ r.2.2.1.length ≤ 2) := by
 intro d
 have leaf : ∀ (d' : Int) (q : Int) (p : Int) (m : Nat), 0 ≤ q → q ≤ 800000000000 → p ≤ q → q + 2 ≤ p + 4 ^ (m + 1) → EvP (fun k => spec_l91Expr.j0 k d' true b q) (fun r => p ≤ r.2.2.2 ∧ r.2.2.2 ≤ p + 4 ^ (m + 1) ∧ r.2.2.1.length ≤ 2) := by
  intro d' q p m h0 h1 h2 h3
  refine EvP.step (fun k => spec_l91Expr.j0.eq_2 (k := k) ..) (EvP.yes rfl ?_)
  refine EvP.bind (l91Leaf_ev b hb q h0 (by omega)) fun r hr => ?_
  exact EvP.ret (by dsimp only; omega)
 induction d with
 | zero =>
  intro p hd h0 h1
  refine EvP.step (fun k => spec_l91Expr.f.eq_2 (k := k) ..) (EvP.yes (by omega) ?_)
  exact leaf _ p p 0 h0 (by omega) (by omega) (by omega)
 | succ d ih =>
  intro p hd h0 h1
  have h4 : (4 : Int) ^ (d + 1 + 1) = 4 * 4 ^ (d + 1) := by rw [Int.pow_succ, Int.mul_comm]
  have h5 : (4 : Int) ≤ 4 ^ (d + 1) := by
   have : 0 < (4 : Int) ^ d := Int.pow_pos (by omega)
   rw [Int.pow_succ]
   omega
  refine EvP.step (fun k => spec_l91Expr.f.eq_2 (k := k) ..) (EvP.ite (fun h => ?_) (fun h => ?_))
  ·exact leaf _ p p (d + 1) h0 (by omega) (by omega) (by omega)
  ·refine pick_then hb h0 (by omega) fun v v0 v1 _ => ?_
   dsimp only
   cases hv : (v == 0) with
   | true => exact leaf _ (p + 1) p (d + 1) (by omega) (by omega) (by omega) (by omega)
   | false =>
    refine EvP.step (fun k => spec_l91Expr.j0.eq_2 (k := k) ..) (EvP.no (by simp) ?_)
    rw [w64 (by omega) (by omega), show ((d + 1 : Nat) : Int) - 1 = (d : Int) by omega]
    refine EvP.bind (l91Op_ev b hb (p + 1) (by omega) (by omega)) fun r hr => ?_
    refine EvP.bind (ih r.2 (by omega) (by omega) (by omega)) fun s hs => ?_
    refine EvP.bind (ih s.2.2.2 (by omega) (by omega) (by omega)) fun u hu => ?_
    exact EvP.bind0 rfl (EvP.ret (by simp; omega))
theorem l91Expr_ev' (b : List Int) (hb : Bytes b) (d : Int) (p : Int) (hd0 : 0 ≤ d) (hd : d ≤ 5) (h0 : 0 ≤ p) (h1 : p ≤ 700000000000) : EvP (fun k => spec_l91Expr.f k b p d) (fun r => p ≤ r.2.2.2 ∧ r.2.2.2 ≤ p + 4096 ∧ r.2.2.1.length ≤ 2) := by
 have hp : (4 : Int) ^ (d.toNat + 1) ≤ 4096 := by
  have : d.toNat ≤ 5 := by omega
  have h2 : 4 ^ (d.toNat + 1) ≤ 4 ^ 6 := Nat.pow_le_pow_right (by omega) (by omega)
  have h3 : ((4 ^ (d.toNat + 1) : Nat) : Int) ≤ 4096 := by omega
  rw [Int.natCast_pow] at h3
  exact h3
 have h := l91Expr_ev b hb d.toNat p (by omega) h0 (by omega)
 rw [Int.toNat_of_nonneg hd0] at h
 exact h.mono fun r hr => by omega
theorem l91Spoilt_ev (b : List Int) (hb : Bytes b) (p : Int) (h0 : 0 ≤ p) (h1 : p ≤ 100000000000) : EvP (fun k => spec_l91Spoilt.f k b p) (fun r => p ≤ r.2.2.2 ∧ r.2.2.2 ≤ p + 20000 ∧ r.2.2.1.length ≤ 3) := by
 unfold spec_l91Spoilt.f
 refine pick_then hb h0 (by omega) fun v v0 v1 _ => ?_
 have := v1 (by omega)
 dsimp only
 rw [w64 (by omega) (by omega)]
 refine EvP.bind (l91Expr_ev' b hb _ _ (by omega) (by omega) (by omega) (by omega)) fun r hr => ?_
 refine pick_then hb (by omega) (by omega) fun c _ _ _ => ?_
 dsimp only
 refine EvP.ite (fun h => ?_) (fun h => ?_)
 ·refine EvP.bind0 rfl (pick_then hb (by omega) (by omega) fun v2 w0 w1 _ => ?_)
  have := w1 (by omega)
  exact EvP.yes w0 (EvP.yes (by simp; omega) (EvP.ret (by dsimp only; omega)))
 refine EvP.ite (fun h => ?_) (fun h => ?_)
 ·refine EvP.bind0 rfl (pick_then hb (by omega) (by omega) fun v2 w0 w1 _ => ?_)
  have := w1 (by omega)
  exact EvP.yes w0 (EvP.yes (by simp; omega) (EvP.ret (by dsimp only; omega)))
 refine EvP.ite (fun h => ?_) (fun h => ?_)
 ·refine EvP.bind (l91Leaf_ev b hb _ (by omega) (by omega)) fun s hs => ?_
  exact EvP.yes (by omega) (EvP.ret (by simp; omega))
 refine EvP.ite (fun h => ?_) (fun h => ?_)
 ·refine EvP.bind (l91Leaf_ev b hb _ (by omega) (by omega)) fun s hs => ?_
  refine EvP.bind0 rfl (EvP.bind (l91Expr_ev' b hb 5 _ (by omega) (by omega) (by omega) (by omega)) fun u hu => ?_)
  exact EvP.bind0 rfl (EvP.ret (by simp; omega))
 refine EvP.ite (fun h => ?_) (fun h => ?_)
 ·refine EvP.bind (l91Op_ev b hb _ (by omega) (by omega)) fun s hs => ?_
  refine EvP.bind (l91Expr_ev' b hb 4 _ (by omega) (by omega) (by omega) (by omega)) fun u hu => ?_
  exact EvP.bind0 rfl (EvP.bind0 rfl (EvP.ret (by simp; omega)))
 ·exact EvP.ret (by dsimp only; omega)
end Go.Proofs.YtjamfkpgmkhbnaaDoor.PA

namespace Go.Proofs.YtjamfkpgmkhbnaaDoor.PA
open Go.RowKit Go.Proofs.YtjamfkpgmkhbnaaDoorW.PrintWords Go.Proofs.YtjamfkpgmkhbnaaDoorW.PrintMore Go.Proofs.YtjamfkpgmkhbnaaDoor.Core
theorem vx_parts {op n : Int} {a : List S29} (h : vx 5 op n a = true) : ∃ x : X, x.ok ∧ x.depth ≤ 5 ∧ op = (emb x).f0 ∧ n = (emb x).f1 ∧ a = (emb x).f2 := by
 obtain ⟨x, h1, h2, h3⟩ := vx_tree 5 op n a h
 exact ⟨x, h1, h2, by rw [h3], by rw [h3], by rw [h3]⟩
theorem vx_yes {x : X} (h : x.ok) (hd : x.depth ≤ 5) : vx 5 (emb x).f0 (emb x).f1 (emb x).f2 = true := by
 rw [vx_emb x 5 h]
 exact decide_eq_true hd
theorem Itoa_eq {n : Int} (h0 : 0 ≤ n) (h : n ≤ 99999) : strconv_Itoa_39.f n = some (ba (dec n)) := by
 unfold strconv_Itoa_39.f
 rw [if_pos h0, if_pos (by omega), dec_itoa h0]
 rfl
theorem impl_varText_eq {v : Int} (h : 0 ≤ v ∧ v < 4) : impl_varText.f v = some (ba (varB v)) := by
 unfold impl_varText.f
 rw [if_pos (by omega)]
 rfl
theorem ops12 {op : Int} (h : 1 ≤ op ∧ op ≤ 12) : op = 1 ∨ op = 2 ∨ op = 3 ∨ op = 4 ∨ op = 5 ∨ op = 6 ∨ op = 7 ∨ op = 8 ∨ op = 9 ∨ op = 10 ∨ op = 11 ∨ op = 12 := by omega
theorem impl_OpLevel_ev {op : Int} (h : 1 ≤ op ∧ op ≤ 12) : EvP (fun k => impl_OpLevel.f k op) (· = lev op) := by
  refine Ev.evp (Ev.of (impl_OpLevel.mono _) (k := 10) ?_)
  rcases ops12 h with h | h | h | h | h | h | h | h | h | h | h | h <;> subst h <;> first | rfl | kernel_rfl
theorem spec_OpLevel_eq {op : Int} (h : 1 ≤ op ∧ op ≤ 12) : spec_OpLevel.f op = some (lev op) := by
 rcases ops12 h with h | h | h | h | h | h | h | h | h | h | h | h <;> subst h <;> first | rfl | kernel_rfl
theorem impl_OpText_eq {op : Int} (h : 1 ≤ op ∧ op ≤ 12) : impl_OpText.f op = some (ba (opB op)) := by
 rcases ops12 h with h | h | h | h | h | h | h | h | h | h | h | h <;> subst h <;> first | rfl | kernel_rfl
theorem spec_OpText_eq {op : Int} (h : 1 ≤ op ∧ op ≤ 12) : spec_OpText.f op = some (ba (opB op)) := by
 rcases ops12 h with h | h | h | h | h | h | h | h | h | h | h | h <;> subst h <;> first | rfl | kernel_rfl
theorem lev_range {op : Int} (h : 1 ≤ op ∧ op ≤ 12) : 1 ≤ lev op ∧ lev op ≤ 8 := by
 rcases ops12 h with h | h | h | h | h | h | h | h | h | h | h | h <;> subst h <;> decide
theorem strOf1 {n : Int} (h0 : 0 ≤ n) (h : n < 10) : strOfNums (([(wrap64 (48 + n)) % 256] : List Int)) = ba [UInt8.ofNat (48 + n.toNat)] := by
 rw [w64 (by omega) (by omega), Int.emod_eq_of_lt (by omega) (by omega)]
 show ba [UInt8.ofNat (48 + n).toNat] = _
 rw [show (48 + n).toNat = 48 + n.toNat by omega]
theorem spec_l6Dec_ev : ∀ (m : Nat) (n : Int), n.toNat ≤ m → 0 ≤ n → n ≤ 1000000 → EvP (fun k => spec_l6Dec.f k n) (· = ba (dec n)) := by
  intro m
  induction m with
  | zero =>
    intro n hm h0 h1
    have : n = 0 := by omega
    subst this
    refine EvP.step (fun k => spec_l6Dec.f.eq_2 (k := k) ..) (EvP.no (by omega) (EvP.no (by omega) (EvP.yes (by omega) (EvP.ret ?_))))
    rw [strOf1 (by omega) (by omega)]
    unfold dec
    rw [Lib.decDigits, dif_pos (by decide)]
  | succ m ih =>
    intro n hm h0 h1
    refine EvP.step (fun k => spec_l6Dec.f.eq_2 (k := k) ..) (EvP.no (by omega) (EvP.no (by omega) (EvP.ite (fun h => EvP.ret ?_) (fun h => ?_))))
    · rw [strOf1 (by omega) (by omega)]
      unfold dec
      rw [Lib.decDigits, dif_pos (by omega)]
    · have hd : Int.tdiv n 10 = n / 10 := Int.tdiv_eq_ediv_of_nonneg h0
      have hr : Int.tmod n 10 = n % 10 := Int.tmod_eq_emod_of_nonneg h0
      rw [hd, hr, w64 (n := n / 10) (by omega) (by omega)]
      refine EvP.bindEq (ih (n / 10) (by omega) (by omega) (by omega)) (EvP.bind0 rfl ?_)
      rw [strOf1 (n := n % 10) (by omega) (by omega)]
      have hl : (dec (n / 10)).length ≤ 7 := decDigits_len 6 _ (by omega)
      refine EvP.yes (by rw [ba_size, ba_size]; show _ + 1 ≤ _; omega) (EvP.ret ?_)
      rw [ba_append]
      unfold dec
      rw [Lib.decDigits.eq_1 n.toNat, dif_neg (by omega), show (n / 10).toNat = n.toNat / 10 by omega, show (n % 10).toNat = n.toNat % 10 by omega]
theorem spec_l5Name_eq {v : Int} (h : 0 ≤ v ∧ v < 4) : spec_l5Name.f v = some (ba (varB v)) := by
 unfold spec_l5Name.f
 rw [w64 (by omega) (by omega), Int.emod_eq_of_lt (by omega) (by omega)]
 rfl
theorem spec_l5Wrap_eq (L : List (List UInt8)) (b : Bool) (hl : L.length ≤ 1000000) : spec_l5Wrap.f (L.map ba) b = some ((wrapT L b).map ba) := by
 unfold spec_l5Wrap.f wrapT
 cases b with
 | false => rw [if_neg Bool.false_ne_true, if_neg Bool.false_ne_true]
 | true =>
  rw [if_pos rfl, if_pos rfl]
  simp only [Option.bind_some]
  rw [if_pos (by rw [List.length_map]; show 1 + _ < _; omega)]
  rw [if_pos (by rw [List.length_append, List.length_map]; show 1 + _ < _; omega)]
  rw [List.map_cons, List.map_append]
  rfl
theorem spec_l5Level_eq {x : X} (h : x.ok) : spec_l5Level.f (emb x).f0 (emb x).f1 (emb x).f2 = some x.lev := by
 unfold spec_l5Level.f
 cases x with
 | num n => rfl
 | var v => rfl
 | bin op a b =>
  rw [if_neg (by simp [emb])]
  show ((spec_OpLevel.f op).bind fun t => some t) = _
  rw [spec_OpLevel_eq h.1]
  rfl
theorem impl_operandTokens_of {x : X} (h : x.ok) (hx : ∀ out : List ByteArray, out.length + 5 * x.size ≤ 1000000 → EvP (fun k => impl_exprTokens.f k (emb x).f0 (emb x).f1 (emb x).f2 out) (· = out ++ x.toks.map ba))
    (least : Int) (hl : least ≤ 9) (out : List ByteArray) (ho : out.length + 5 * x.size + 2 ≤ 1000000) : EvP (fun k => impl_operandTokens.f k (emb x).f0 (emb x).f1 (emb x).f2 least out) (· = out ++ (wrapT x.toks (decide (x.lev < least))).map ba) := by
  refine EvP.step (fun k => impl_operandTokens.f.eq_2 (k := k) ..) ?_
  have no : decide (x.lev < least) = false → EvP (fun k => impl_operandTokens.j0 k out true (emb x).f0 (emb x).f1 (emb x).f2) (· = out ++ (wrapT x.toks (decide (x.lev < least))).map ba) := by
    intro hd
    rw [hd]
    exact EvP.step (fun k => impl_operandTokens.j0.eq_2 (k := k) ..) (EvP.yes rfl (EvP.bindEq (hx out (by omega)) (EvP.ret rfl)))
  cases x with
  | num n => exact EvP.bind0 (impl_OpValid_eq 0) (EvP.no (by decide) (no (decide_eq_false (by show ¬ (9 : Int) < least; omega))))
  | var v => exact EvP.bind0 (impl_OpValid_eq 13) (EvP.no (by decide) (no (decide_eq_false (by show ¬ (9 : Int) < least; omega))))
  | bin op a b =>
    have h1 := h.1
    refine EvP.bind0 (impl_OpValid_eq op) (EvP.yes (by simp [h1.1, h1.2]) (EvP.bindEq (impl_OpLevel_ev h1) ?_))
    show EvP (fun n => impl_operandTokens.j0 n out (decide (lev op ≥ least)) (emb (X.bin op a b)).f0 (emb (X.bin op a b)).f1 (emb (X.bin op a b)).f2) _
    by_cases hc : lev op < least
    · rw [decide_eq_false (show ¬ lev op ≥ least by omega)]
      rw [show decide ((X.bin op a b).lev < least) = true from decide_eq_true hc]
      refine EvP.step (fun k => impl_operandTokens.j0.eq_2 (k := k) ..) (EvP.no Bool.false_ne_true (EvP.yes (by omega) (EvP.bindEq (hx (out ++ [(⟨#[40]⟩ : ByteArray)]) (by rw [List.length_append]; show _ + 1 + _ ≤ _; omega)) (EvP.yes ?_ (EvP.ret ?_)))))
      · have := toks_len (X.bin op a b)
        rw [List.length_append, List.length_append, List.length_map]
        show _ + 1 + _ < _
        omega
      · unfold wrapT
        rw [if_pos rfl, List.map_cons, List.map_append]
        simp
        exact ⟨rfl, rfl⟩
    · rw [decide_eq_true (show lev op ≥ least by omega)]
      exact no (decide_eq_false hc)
theorem impl_exprTokens_ev : ∀ x : X, x.ok → ∀ out : List ByteArray, out.length + 5 * x.size ≤ 1000000 → EvP (fun k => impl_exprTokens.f k (emb x).f0 (emb x).f1 (emb x).f2 out) (· = out ++ x.toks.map ba)
  | .num n, h, out, ho => by
    have h : 0 ≤ n ∧ n ≤ 99999 := h
    exact EvP.step (fun k => impl_exprTokens.f.eq_2 (k := k) ..) (EvP.yes rfl (EvP.bind0 (Itoa_eq h.1 h.2) (EvP.yes (by omega) (EvP.ret rfl))))
  | .var v, h, out, ho => by
    have h : 0 ≤ v ∧ v < 4 := h
    exact EvP.step (fun k => impl_exprTokens.f.eq_2 (k := k) ..) (EvP.no (by show ¬ (13 : Int) = 0; decide) (EvP.yes rfl (EvP.bind0 (impl_varText_eq h) (EvP.yes (by omega) (EvP.ret rfl)))))
  | .bin op a b, h, out, ho => by
    have h1 := h.1
    have hr := lev_range h1
    have hs : (X.bin op a b).size = a.size + b.size + 1 := rfl
    have ta := toks_len a
    have wa := wrapT_len a.toks (decide (a.lev < lev op))
    show EvP (fun k => impl_exprTokens.f k op 0 [emb a, emb b] out) _
    refine EvP.step (fun k => impl_exprTokens.f.eq_2 (k := k) ..) (EvP.no (by show ¬ op = 0; omega) (EvP.no (by show ¬ op = 13; omega) (EvP.bindEq (impl_OpLevel_ev h1) (EvP.yes (by show (0 : Int) < 2; omega) ?_))))
    show EvP (fun k => (impl_operandTokens.f k (emb a).f0 (emb a).f1 (emb a).f2 (lev op) out).bind _) _
    refine EvP.bindEq (impl_operandTokens_of h.2.1 (impl_exprTokens_ev a h.2.1) (lev op) (by omega) out (by omega)) (EvP.bind0 (impl_OpText_eq h1) (EvP.yes (by rw [List.length_append, List.length_map]; omega) (EvP.yes (by show (1 : Int) < 2; omega) ?_)))
    show EvP (fun k => (impl_operandTokens.f k (emb b).f0 (emb b).f1 (emb b).f2 (wrap64 (lev op + 1)) _).bind _) _
    rw [w64 (by omega) (by omega)]
    refine EvP.bindEq (impl_operandTokens_of h.2.2 (impl_exprTokens_ev b h.2.2) (lev op + 1) (by omega) _ (by rw [List.length_append, List.length_append, List.length_map]; show _ + _ + 1 + _ + 2 ≤ _; omega)) (EvP.ret ?_)
    rw [X.toks, List.map_append, List.map_cons, show decide (b.lev < lev op + 1) = decide (b.lev ≤ lev op) from decide_eq_decide.mpr (by omega)]
    simp
theorem spec_l5Tokens_ev : ∀ x : X, x.ok → x.size ≤ 1000 → EvP (fun k => spec_l5Tokens.f k (emb x).f0 (emb x).f1 (emb x).f2) (· = x.toks.map ba)
  | .num n, h, _ => by
    have h : 0 ≤ n ∧ n ≤ 99999 := h
    exact EvP.step (fun k => spec_l5Tokens.f.eq_2 (k := k) ..) (EvP.yes rfl (EvP.bindEq (spec_l6Dec_ev n.toNat n (by omega) h.1 (by omega)) (EvP.ret rfl)))
  | .var v, h, _ => by
    have h : 0 ≤ v ∧ v < 4 := h
    exact EvP.step (fun k => spec_l5Tokens.f.eq_2 (k := k) ..) (EvP.no (by show ¬ (13 : Int) = 0; decide) (EvP.yes rfl (EvP.bind0 (spec_l5Name_eq h) (EvP.ret rfl))))
  | .bin op a b, h, hz => by
    have h1 := h.1
    have hr := lev_range h1
    have hs : (X.bin op a b).size = a.size + b.size + 1 := rfl
    have ta := toks_len a
    have tb := toks_len b
    have wa := wrapT_len a.toks (decide (a.lev < lev op))
    have wb := wrapT_len b.toks (decide (b.lev ≤ lev op))
    show EvP (fun k => spec_l5Tokens.f k op 0 [emb a, emb b]) _
    refine EvP.step (fun k => spec_l5Tokens.f.eq_2 (k := k) ..) (EvP.no (by show ¬ op = 0; omega) (EvP.no (by show ¬ op = 13; omega) (EvP.bind0 (spec_OpLevel_eq h1) (EvP.yes (by show (0 : Int) < 2; omega) ?_))))
    show EvP (fun k => (spec_l5Tokens.f k (emb a).f0 (emb a).f1 (emb a).f2).bind _) _
    refine EvP.bindEq (spec_l5Tokens_ev a h.2.1 (by omega)) (EvP.bind0 (spec_l5Level_eq h.2.1) (EvP.bind0 (spec_l5Wrap_eq _ _ (by omega)) (EvP.bind0 (spec_OpText_eq h1) (EvP.yes (by rw [List.length_map]; omega) (EvP.bind0 rfl (EvP.yes (by show (1 : Int) < 2; omega) ?_))))))
    show EvP (fun k => (spec_l5Tokens.f k (emb b).f0 (emb b).f1 (emb b).f2).bind _) _
    refine EvP.bindEq (spec_l5Tokens_ev b h.2.2 (by omega)) (EvP.bind0 (spec_l5Level_eq h.2.2) (EvP.bind0 (spec_l5Wrap_eq _ _ (by omega)) ?_))
    refine EvP.yes (by rw [List.length_append, List.length_map, List.length_map]; show _ + 1 + _ < _; omega) ?_
    first
    | exact EvP.ret (by rw [X.toks, List.map_append, List.map_cons]; simp)
    | exact EvP.bind0 rfl (EvP.ret (by rw [X.toks, List.map_append, List.map_cons]; simp))
theorem opB_len {op : Int} (h : 1 ≤ op ∧ op ≤ 12) : (opB op).length ≤ 2 := by
 rcases ops12 h with h | h | h | h | h | h | h | h | h | h | h | h <;> subst h <;> decide
theorem wrapT_short {l : List (List UInt8)} {b : Bool} {m : Nat} (hm : 1 ≤ m) (h : ∀ t ∈ l, t.length ≤ m) : ∀ t ∈ wrapT l b, t.length ≤ m := by
 unfold wrapT
 split
 ·intro t ht
  rcases List.mem_cons.1 ht with h1 | h1
  ·subst h1
   exact hm
  ·rcases List.mem_append.1 h1 with h2 | h2
   ·exact h t h2
   ·rw [List.mem_singleton] at h2
    subst h2
    exact hm
 ·exact h
theorem toks_short : ∀ x : X, x.ok → ∀ t ∈ x.toks, t.length ≤ 5
 | .num n, h => by
  have h : 0 ≤ n ∧ n ≤ 99999 := h
  intro t ht
  rw [X.toks, List.mem_singleton] at ht
  subst ht
  exact dec_len h.1 h.2
 | .var v, h => by
  intro t ht
  rw [X.toks, List.mem_singleton] at ht
  subst ht
  exact (by decide : (1 : Nat) ≤ 5)
 | .bin op a b, h => by
  intro t ht
  rw [X.toks] at ht
  rcases List.mem_append.1 ht with h1 | h1
  ·exact wrapT_short (by decide) (toks_short a h.2.1) t h1
  ·rcases List.mem_cons.1 h1 with h2 | h2
   ·subst h2
    have := opB_len h.1
    omega
   ·exact wrapT_short (by decide) (toks_short b h.2.2) t h2
theorem joinT_len (m : Nat) : ∀ L : List (List UInt8), (∀ t ∈ L, t.length ≤ m) → (joinT L).length ≤ (m + 1) * L.length
 | [], _ => by simp [joinT]
 | [x], h => by
  have := h x (by simp)
  simp only [joinT, List.length_singleton]
  omega
 | x :: y :: r, h => by
  have h1 := h x (by simp)
  have h2 := joinT_len m (y :: r) (fun t ht => h t (by simp [ht]))
  rw [joinT_cons x (by simp), List.length_append, List.length_cons, List.length_cons (a := x), Nat.mul_add]
  omega
theorem toks_small (x : X) (hx : x.ok) (hd : x.depth ≤ 5) : x.size ≤ 31 ∧ x.toks.length ≤ 151 ∧ (joinT x.toks).length ≤ 906 := by
 have h1 := size_32 x hd
 have h2 := toks_len x
 have h3 := joinT_len 5 x.toks (toks_short x hx)
 omega
theorem impl_ExprText_yes (x : X) (hx : x.ok) (hd : x.depth ≤ 5) : EvP (fun k => impl_ExprText.f k (emb x).f0 (emb x).f1 (emb x).f2) (· = ba (joinT x.toks)) := by
  obtain ⟨h1, h2, h3⟩ := toks_small x hx hd
  unfold impl_ExprText.f
  refine EvP.bindEq (impl_ExprValid_ev _ _ _) (EvP.yes (vx_yes hx hd) (EvP.bindEq (impl_exprTokens_ev x hx [] (by simp only [List.length_nil]; omega)) ?_))
  rw [List.nil_append]
  exact EvP.bindEq (impl_TokensText_ev _ (by omega) (fun t ht => by have := toks_short x hx t ht; omega) (toks_tok x hx) (by omega)) (EvP.ret rfl)
theorem spec_ExprText_yes (x : X) (hx : x.ok) (hd : x.depth ≤ 5) : EvP (fun k => spec_ExprText.f k (emb x).f0 (emb x).f1 (emb x).f2) (· = ba (joinT x.toks)) := by
  obtain ⟨h1, h2, h3⟩ := toks_small x hx hd
  unfold spec_ExprText.f
  refine EvP.bindEq (spec_ExprValid_ev _ _ _) (EvP.yes (vx_yes hx hd) (EvP.bindEq (spec_l5Tokens_ev x hx (by omega)) ?_))
  exact EvP.bindEq (spec_TokensText_ev _ (by omega) (fun t ht => by have := toks_short x hx t ht; omega) (toks_tok x hx) (by omega)) (EvP.ret rfl)
theorem impl_ExprText_no {op n : Int} {l : List S29} (h : vx 5 op n l = false) : EvP (fun k => impl_ExprText.f k op n l) (· = (⟨#[]⟩ : ByteArray)) := by
  unfold impl_ExprText.f
  exact EvP.bindEq (impl_ExprValid_ev _ _ _) (EvP.no (by rw [h]; exact Bool.false_ne_true) (EvP.ret rfl))
theorem spec_ExprText_no {op n : Int} {l : List S29} (h : vx 5 op n l = false) : EvP (fun k => spec_ExprText.f k op n l) (· = (⟨#[]⟩ : ByteArray)) := by
  unfold spec_ExprText.f
  exact EvP.bindEq (spec_ExprValid_ev _ _ _) (EvP.no (by rw [h]; exact Bool.false_ne_true) (EvP.ret rfl))
theorem joinT_ne {L : List (List UInt8)} (hne : L ≠ []) (h : ∀ t ∈ L, Tok t) : joinT L ≠ [] := by
 cases L with
 | nil => exact absurd rfl hne
 | cons x r =>
  have hx := (h x (by simp)).pos
  intro e
  have e2 := congrArg List.length e
  cases r with
  | nil =>
   have e2 : x.length = 0 := e2
   omega
  | cons y q =>
   rw [joinT_cons x (by simp), List.length_append] at e2
   simp at e2
theorem bytesOf_l0 (l : List UInt8) (hl : l.length ≤ 1000000000) (c : UInt8) : ∀ (d j : Nat) (n : Nat), j + d = l.length → n ≤ j → EvP (fun k => laws_bytesOf.l0 k (ba l) (c.toNat : Int) (n : Int) (j : Int)) (· = ((n + (l.drop j).count c : Nat) : Int))
  | 0, j, n, h, hn => by
    refine EvP.step (fun k => laws_bytesOf.l0.eq_2 (k := k) ..) (EvP.no (by rw [ba_size]; omega) (EvP.ret ?_))
    rw [List.drop_eq_nil_of_le (by omega)]
    rfl
  | d + 1, j, n, h, hn => by
    have hj : j < l.length := by omega
    refine EvP.step (fun k => laws_bytesOf.l0.eq_2 (k := k) ..) (EvP.yes (by rw [ba_size]; omega) (EvP.yes (by omega) ?_))
    rw [ba_bt l j hj, List.drop_eq_getElem_cons hj, w64 (n := (j : Int) + 1) (by omega) (by omega), show (j : Int) + 1 = ((j + 1 : Nat) : Int) by omega]
    refine EvP.ite (fun hc => ?_) (fun hc => ?_)
    · have hc' : l[j] = c := UInt8.toNat_inj.1 (by omega)
      rw [w64 (by omega) (by omega), show (n : Int) + 1 = ((n + 1 : Nat) : Int) by omega]
      refine (bytesOf_l0 l hl c d (j + 1) (n + 1) (by omega) (by omega)).mono (fun a ha => ?_)
      rw [ha, hc', List.count_cons_self]
      congr 1
      omega
    · have hc' : l[j] ≠ c := fun e => hc (by rw [e])
      refine (bytesOf_l0 l hl c d (j + 1) n (by omega) (by omega)).mono (fun a ha => ?_)
      rw [ha, List.count_cons_of_ne hc']
theorem bytesOf_ev (l : List UInt8) (hl : l.length ≤ 1000000000) (c : UInt8) : EvP (fun k => laws_bytesOf.f k (ba l) (c.toNat : Int)) (· = (l.count c : Int)) :=
  (bytesOf_l0 l hl c l.length 0 0 (by omega) (by omega)).mono (fun a ha => by rw [ha, List.drop_zero, Nat.zero_add])
theorem DrawExprText_ev (l : List Int) (hl : l.length ≤ 140737488351232) (hw : ∀ x ∈ l, (Lit.int .u8 x).wf = true) : EvP (fun k => spec_DrawExprText.f k l) (fun r => r.2.2.length ≤ 3) := by
 obtain ⟨b, hb0, hb⟩ := open_bytes l hl hw
 unfold spec_DrawExprText.f
 refine EvP.bind0 hb0 (EvP.bind (l91Spoilt_ev b hb 0 (by omega) (by omega)) fun r hr => ?_)
 exact EvP.ret hr.2.2
theorem Tok.head {t : List UInt8} (h : Tok t) : ∃ c q, t = c :: q ∧ c ≠ 32 ∧ c ≠ 10 := by
 cases h with
 | dig c q h =>
  have := h c (by simp)
  refine ⟨c, q, rfl, fun e => ?_, fun e => ?_⟩ <;> subst e <;> revert this <;> decide
 | let_ c q h =>
  have := h c (by simp)
  refine ⟨c, q, rfl, fun e => ?_, fun e => ?_⟩ <;> subst e <;> revert this <;> decide
 | sym t h =>
  simp only [syms, List.mem_cons, List.not_mem_nil, or_false] at h
  rcases h with h | h | h | h | h | h | h | h | h | h | h | h | h | h | h | h | h | h <;> subst h <;> exact ⟨_, _, rfl, by decide, by decide⟩
theorem getElem_of_drop {s : List UInt8} {p : Nat} {c : UInt8} {q : List UInt8} (h : s.drop p = c :: q) : ∃ hp : p < s.length, s[p] = c := by
 have hp : p < s.length := by
  rcases Nat.lt_or_ge p s.length with h1 | h1
  ·exact h1
  ·rw [List.drop_eq_nil_of_le h1] at h
   cases h
 refine ⟨hp, ?_⟩
 rw [List.drop_eq_getElem_cons hp] at h
 exact (List.cons.inj h).1
theorem Tokens_l0 (s : List UInt8) (hs : s.length ≤ 20000) : ∀ (R : List (List UInt8)) (p : Nat) (acc : List ByteArray), (∀ t ∈ R, Tok t) → p ≤ s.length → s.drop p = joinT R → acc.length ≤ p →
    EvP (fun k => impl_Tokens.l0 k (ba s) acc (p : Int)) (· = (acc ++ R.map ba, true))
  | [], p, acc, ht, hp, hd, ha => by
    have hp2 : p = s.length := by
      have := congrArg List.length hd
      rw [List.length_drop] at this
      simp only [joinT, List.length_nil] at this
      omega
    refine EvP.step (fun k => impl_Tokens.l0.eq_2 (k := k) ..) (EvP.no (by rw [ba_size]; omega) (EvP.ret ?_))
    simp
  | t :: R, p, acc, ht, hp, hd, ha => by
    obtain ⟨c, q, rfl, h32, h10⟩ := (ht t (by simp)).head
    have htok := ht (c :: q) (by simp)
    obtain ⟨rest, hrest, hjo⟩ : ∃ rest, Rest rest ∧ joinT ((c :: q) :: R) = (c :: q) ++ rest := by
      cases R with
      | nil => exact ⟨[], .inl rfl, by simp [joinT]⟩
      | cons y r => exact ⟨32 :: joinT (y :: r), .inr ⟨_, rfl⟩, rfl⟩
    have hd2 : s.drop p = c :: (q ++ rest) := by rw [hd, hjo]; rfl
    obtain ⟨hlt, hc⟩ := getElem_of_drop hd2
    have hlen : p + (c :: q).length + rest.length = s.length := by
      have := congrArg List.length hd2
      rw [List.length_drop] at this
      simp only [List.length_cons, List.length_append] at this ⊢
      omega
    refine EvP.step (fun k => impl_Tokens.l0.eq_2 (k := k) ..) (EvP.yes (by rw [ba_size]; omega) (EvP.yes (by omega) ?_))
    rw [ba_bt s p hlt, hc]
    have n32 : ¬ ((c.toNat : Int) = 32) := fun e => h32 (UInt8.toNat_inj.1 (by show c.toNat = 32; omega))
    have n10 : ((c.toNat : Int) == 10) = false := beq_eq_false_iff_ne.mpr (fun e => h10 (UInt8.toNat_inj.1 (by show c.toNat = 10; omega)))
    refine EvP.no n32 ?_
    rw [n10]
    refine EvP.step (fun k => impl_Tokens.j1.eq_2 (k := k) ..) (EvP.no Bool.false_ne_true (EvP.yes (by omega) (EvP.yes (by rw [ba_size]; omega) ?_)))
    have hex : (ba s).extract ((p : Int)).toNat (ba s).size = ba ((c :: q) ++ rest) := by
      rw [ba_extract, ba_size, Int.toNat_natCast, List.take_of_length_le (Nat.le_refl _), hd2]
      rfl
    rw [hex]
    refine EvP.bindEq (tokenLength_ev (c :: q) rest (by rw [List.length_append]; omega) htok hrest) ?_
    have hq : 0 < (c :: q).length := by simp
    refine EvP.no (by omega) ?_
    rw [w64 (by omega) (by omega)]
    refine EvP.yes (by omega) (EvP.yes (by rw [ba_size]; omega) (EvP.yes (by omega) ?_))
    have hex2 : (ba s).extract ((p : Int)).toNat (((p : Int) + ((c :: q).length : Int)) : Int).toNat = ba (c :: q) := by
      rw [ba_extract, Int.toNat_natCast, show (((p : Int) + ((c :: q).length : Int)) : Int).toNat = p + (c :: q).length by omega, List.drop_take, hd2, show p + (c :: q).length - p = (c :: q).length by omega]
      rw [← List.cons_append, List.take_left]
    rw [hex2, show (p : Int) + ((c :: q).length : Int) = ((p + (c :: q).length : Nat) : Int) by omega]
    have hd3 : s.drop (p + (c :: q).length) = rest := by
      rw [← List.drop_drop, hd2, ← List.cons_append, List.drop_left]
    cases R with
    | nil =>
      have hr : rest = [] := by
        have := congrArg List.length hjo
        simp only [joinT, List.length_append] at this
        exact List.eq_nil_of_length_eq_zero (by omega)
      refine (Tokens_l0 s hs [] (p + (c :: q).length) (acc ++ [ba (c :: q)]) (fun _ h => by cases h) (by omega) (by rw [hd3, hr]; rfl) (by rw [List.length_append]; show _ + 1 ≤ _; omega)).mono (fun a ha => ?_)
      rw [ha]
      simp
    | cons y r =>
      have hr : rest = 32 :: joinT (y :: r) := List.append_cancel_left (hjo.symm.trans rfl)
      have hd4 : s.drop (p + (c :: q).length) = 32 :: joinT (y :: r) := by rw [hd3, hr]
      obtain ⟨hlt2, hc2⟩ := getElem_of_drop hd4
      refine EvP.step (fun k => impl_Tokens.l0.eq_2 (k := k) ..) (EvP.yes (by rw [ba_size]; omega) (EvP.yes (by omega) ?_))
      rw [ba_bt s _ hlt2, hc2]
      refine EvP.yes rfl (EvP.step (fun k => impl_Tokens.j1.eq_2 (k := k) ..) (EvP.yes rfl ?_))
      rw [w64 (by omega) (by omega), show ((p + (c :: q).length : Nat) : Int) + 1 = ((p + (c :: q).length + 1 : Nat) : Int) by omega]
      refine (Tokens_l0 s hs (y :: r) (p + (c :: q).length + 1) (acc ++ [ba (c :: q)]) (fun t h => ht t (by simp only [List.mem_cons] at h ⊢; exact .inr h)) (by omega) ?_ (by rw [List.length_append]; show _ + 1 ≤ _; omega)).mono (fun a ha => ?_)
      · rw [← List.drop_drop, hd4]
        rfl
      · rw [ha]
        simp
theorem impl_Tokens_ev (L : List (List UInt8)) (ht : ∀ t ∈ L, Tok t) (hl : (joinT L).length ≤ 20000) : EvP (fun k => impl_Tokens.f k (ba (joinT L))) (· = (L.map ba, true)) := by
  unfold impl_Tokens.f
  refine EvP.no (by rw [ba_size]; omega) ?_
  exact (Tokens_l0 (joinT L) hl L 0 [] ht (by omega) rfl (by simp)).mono (fun a ha => by rw [ha]; rfl)
def cntT (c : UInt8) (L : List (List UInt8)) : Nat := (L.map (List.count c)).sum
theorem cntT_append (c : UInt8) (L M : List (List UInt8)) : cntT c (L ++ M) = cntT c L + cntT c M := by simp [cntT]
theorem cntT_cons (c : UInt8) (t : List UInt8) (L : List (List UInt8)) : cntT c (t :: L) = t.count c + cntT c L := by simp [cntT]
theorem count_joinT {c : UInt8} (hc : c ≠ 32) : ∀ L : List (List UInt8), (joinT L).count c = cntT c L
 | [] => rfl
 | [x] => by simp [joinT, cntT]
 | x :: y :: r => by
  rw [joinT_cons x (by simp), List.count_append, List.count_cons_of_ne (fun e => hc e.symm), count_joinT hc (y :: r), cntT_cons c x (y :: r)]
def X.par : X → Nat
 | .num _ => 0
 | .var _ => 0
 | .bin op a b => a.par + b.par + (if decide (a.lev < PA.lev op) = true then 1 else 0) + (if decide (b.lev ≤ PA.lev op) = true then 1 else 0)
theorem wrapT_cnt (L : List (List UInt8)) (b : Bool) : cntT 40 (wrapT L b) = cntT 40 L + (if b = true then 1 else 0) ∧ cntT 41 (wrapT L b) = cntT 41 L + (if b = true then 1 else 0) ∧ (wrapT L b).length = L.length + 2 * (if b = true then 1 else 0) := by
 cases b with
 | false => exact ⟨rfl, rfl, rfl⟩
 | true =>
  unfold wrapT
  rw [if_pos rfl, if_pos rfl]
  refine ⟨?_, ?_, by simp⟩
  ·rw [cntT_cons, cntT_append]
   show 1 + (_ + 0) = _
   omega
  ·rw [cntT_cons, cntT_append]
   show 0 + (_ + 1) = _
   omega
theorem dec_cnt (n : Int) (c : UInt8) (hc : isD c = false) : (dec n).count c = 0 := by
 rw [List.count_eq_zero]
 intro hm
 have := decDigits_isD n.toNat c hm
 rw [this] at hc
 cases hc
theorem par_toks : ∀ x : X, x.ok → cntT 40 x.toks = x.par ∧ cntT 41 x.toks = x.par ∧ x.toks.length = x.size + 2 * x.par
 | .num n, h => by
  refine ⟨?_, ?_, rfl⟩
  ·show (dec n).count 40 + 0 = 0
   rw [dec_cnt n 40 (by decide)]
  ·show (dec n).count 41 + 0 = 0
   rw [dec_cnt n 41 (by decide)]
 | .var v, h => by
  have h4 : v = 0 ∨ v = 1 ∨ v = 2 ∨ v = 3 := by
   have : 0 ≤ v ∧ v < 4 := h
   omega
  refine ⟨?_, ?_, rfl⟩ <;> rcases h4 with h | h | h | h <;> subst h <;> decide
 | .bin op a b, h => by
  obtain ⟨a1, a2, a3⟩ := par_toks a h.2.1
  obtain ⟨b1, b2, b3⟩ := par_toks b h.2.2
  obtain ⟨u1, u2, u3⟩ := wrapT_cnt a.toks (decide (a.lev < lev op))
  obtain ⟨v1, v2, v3⟩ := wrapT_cnt b.toks (decide (b.lev ≤ lev op))
  have o : (opB op).count 40 = 0 ∧ (opB op).count 41 = 0 := by
   rcases ops12 h.1 with h | h | h | h | h | h | h | h | h | h | h | h <;> subst h <;> decide
  rw [X.toks, X.par, X.size, cntT_append, cntT_cons, cntT_append, cntT_cons, List.length_append, List.length_cons, u1, u2, u3, v1, v2, v3, a1, a2, a3, b1, b2, b3, o.1, o.2]
  refine ⟨by omega, by omega, by omega⟩
end Go.Proofs.YtjamfkpgmkhbnaaDoor.PA

namespace Go.Proofs.YtjamfkpgmkhbnaaDoor.Pure
open Go.RowKit Go.Proofs.YtjamfkpgmkhbnaaDoor.PA Go.Proofs.YtjamfkpgmkhbnaaDoorW.PrintWords Go.Proofs.YtjamfkpgmkhbnaaDoorW.PrintLast Go.Proofs.YtjamfkpgmkhbnaaDoorW.PrintMore Go.Proofs.YtjamfkpgmkhbnaaDoor.Core
theorem FnTextTokens : laws_FnTextTokens.Pure := by
 intro l _ hl hw
 refine EvP.ends (r := true) ?_
 unfold laws_FnTextTokens.f
 refine EvP.ite (fun _ => EvP.ret rfl) (fun _ => ?_)
 refine EvP.bind (DrawExprText_ev l (by omega) hw) fun r hr => ?_
 obtain ⟨op, n, a⟩ := r
 dsimp only at hr ⊢
 cases hv : vx 5 op n a with
 | false =>
  refine EvP.bindEq (impl_ExprText_no hv) (EvP.bindEq (spec_ExprText_no hv) (EvP.yes rfl ?_))
  exact EvP.step (fun k => laws_FnTextTokens.j0.eq_2 (k := k) ..) (EvP.yes (by rw [toList_data]; rfl) (EvP.ret (by simp)))
 | true =>
  obtain ⟨x, hx, hd, rfl, rfl, rfl⟩ := vx_parts hv
  obtain ⟨h1, h2, hsz⟩ := toks_small x hx hd
  obtain ⟨p1, p2, p3⟩ := par_toks x hx
  refine EvP.bindEq (impl_ExprText_yes x hx hd) (EvP.bindEq (spec_ExprText_yes x hx hd) (EvP.yes rfl ?_))
  have hne : joinT x.toks ≠ [] := joinT_ne (toks_ne x) (toks_tok x hx)
  refine EvP.step (fun k => laws_FnTextTokens.j0.eq_2 (k := k) ..) (EvP.no (by rw [ba_toList]; simpa using hne) ?_)
  refine EvP.bindEq (impl_Tokens_ev _ (toks_tok x hx) (by omega)) (EvP.bindEq (bytesOf_ev (joinT x.toks) (by omega) 40) (EvP.yes rfl ?_))
  rw [count_joinT (by decide), p1]
  refine EvP.bindEq (impl_ExprSize_yes x hx hd) ?_
  rw [w64 (n := 2 * (x.par : Int)) (by omega) (by omega), w64 (by omega) (by omega), List.length_map]
  refine EvP.yes (by omega) (EvP.bindEq (bytesOf_ev (joinT x.toks) (by omega) 41) (EvP.ret ?_))
  rw [count_joinT (by decide), p2]
  exact beq_self_eq_true _
end Go.Proofs.YtjamfkpgmkhbnaaDoor.Pure

namespace Go.Proofs.YtjamfkpgmkhbnaaDoor.LaidT
open Go.ChangeShapes Go.WideShapes Go.ChangeAt Go.RowKit Go.Proofs.YtjamfkpgmkhbnaaDoor
set_option linter.unusedVariables false
abbrev laidL : List (String × DataW Unit) := [("math/bits.deBruijn32tab", Rows.laid_math_bits_deBruijn32tab), ("math/bits.deBruijn64tab", Rows.laid_math_bits_deBruijn64tab), ("internal/strconv.uint64pow10", Rows.laid_internal_strconv_uint64pow10), ("loop.example/cothreads/impl.opTexts", Rows.laid_loop_example_cothreads_impl_opTexts)]
theorem cells_of_strs {H : Type} {enc : TypeId × Value → H} {P : Program} {w : World} {base : Nat} {sp : Nat → Bool} {held : Bool} {fuel : Nat} {t e : TypeId} {n : Nat} {cs : List Value} {bs : List (List UInt8)} {p : List MemPlace}
    (ht : P.underlying t = some (.array n e)) (he : P.underlying e = some .string) (hce : P.cellsOf e = 1) (hct : P.cellsOf t = n)
    (h : DataW.trod enc P w base sp held fuel t cs = some (.agg (bs.map fun b => .lit (.string b)), p)) : cs = bs.map fun b => Value.string ⟨b.toArray⟩ := by
  cases fuel with
  | zero => simp [DataW.trod] at h
  | succ fuel =>
    simp only [DataW.trod, ht, hce, hct, Nat.mul_one] at h
    split at h
    · rename_i hl
      obtain ⟨xs, hm, hx⟩ := Option.map_eq_some_iff.1 h
      have hxs : xs.map (·.1) = bs.map fun b => (DataW.lit (.string b) : DataW H) := by
        have := congrArg Prod.fst hx
        simpa using this
      have hxl : xs.length = n := by simpa using Lib.mapM_length hm
      have hzl : bs.length = n := by
        have := congrArg List.length hxs
        simp at this
        omega
      apply List.ext_getElem?
      intro i
      by_cases hi : i < n
      · obtain ⟨b, hb, hf⟩ := Lib.mapM_at hm i i (by simp [hi])
        obtain ⟨s, hc, rfl, _⟩ := DataW.trod_string he hf
        have h1 : cs[i]? = some (.string s) := by
          have := congrArg (·[0]?) hc
          simpa [List.getElem?_take, List.getElem?_drop] using this
        have h2 : (xs.map (·.1))[i]? = some (DataW.lit (.string s.data.toList) : DataW H) := by simp [hb]
        rw [hxs] at h2
        simp only [List.getElem?_map, Option.map_eq_some_iff, DataW.lit.injEq, Lit.string.injEq] at h2
        obtain ⟨z', hz', e'⟩ := h2
        rw [h1, List.getElem?_map, hz', e']
        rfl
      · rw [List.getElem?_eq_none (by omega), List.getElem?_eq_none (by simp; omega)]
    · cases h
theorem strs_of_head {P : Program} {W : World} {name : String} {bs : List (List UInt8)} {rest : List (String × DataW Unit)} {g : Nat} {t e : TypeId} {n : Nat}
    (hg : P.globalNamed name = some g) (hty : (P.globals[g]?).map (·.type) = some t) (ht : P.underlying t = some (.array n e)) (he : P.underlying e = some .string) (hce : P.cellsOf e = 1) (hct : P.cellsOf t = n)
    (h : laidMet P ((name, .agg (bs.map fun b => .lit (.string b))) :: rest) W) : W.var? P name = some (bs.map fun b => Value.string ⟨b.toArray⟩).toArray := by
  obtain ⟨ps, ⟨g', t', cs, fuel, p, q, hg', ht', hvar, hd, _, _⟩, _⟩ := h
  obtain rfl := Option.some.inj (hg.symm.trans hg')
  obtain rfl := Option.some.inj (hty.symm.trans ht')
  rw [hvar, ← cells_of_strs ht he hce hct hd]
theorem door_met (os : Os) (args : Array Value) : laidMetH Tryd.prog laidL ((World.doorLaid Tryd.prog 29 os).forCall (fun _ _ => 0) ⟨#[], args, []⟩).memory :=
 laidMetH_of_parts3 (fuel := 8) (laidMet_of_run' 8 (by kernel_rfl) (by kernel_rfl)) (by kernel_rfl) (by kernel_rfl)
theorem tabOf {W : World} (h0 : laidMetH Tryd.prog laidL W) : PA.Tab W := by
 have h : laidMet Tryd.prog laidL W := by rwa [MakeChecks.laidMetH_plain _ _ _ (by kernel_rfl)] at h0
 exact ⟨Lib.tabIs_of_head (g := 2) (t := 95) (e := 89) (n := 20) (by kernel_rfl) (by kernel_rfl) (by kernel_rfl) (by kernel_rfl) (by kernel_rfl) (by kernel_rfl) (laidMet.tail (laidMet.tail h)),
  (strs_of_head (g := 0) (t := 81) (e := 9) (n := 12) (bs := [[124], [94], [38], [61, 61], [60], [60, 60], [62, 62], [43], [45], [42], [47], [37]]) (by kernel_rfl) (by kernel_rfl) (by kernel_rfl) (by kernel_rfl) (by kernel_rfl) (by kernel_rfl) (laidMet.tail (laidMet.tail (laidMet.tail h)))).trans (by kernel_rfl)⟩
theorem var_below {P : Program} {w w' : World} {nm : String} {a : Array Value} (h : w.var? P nm = some a) (hb : Below w.heap.size w w') : w'.var? P nm = some a := PA.var_below h hb
theorem laidOut : laidOutB Tryd.prog = true := by kernel_rfl
theorem var_stays {H : Type} {enc : TypeId × Value → H} {W W' : World} {cs : Array Value} {d : DataW H} {p : List MemPlace} (hv : W.var? Tryd.prog "loop.example/cothreads/impl.opTexts" = some cs)
  (hd : ∃ fuel, DataW.trod enc Tryd.prog W 0 (fun _ => true) true fuel 81 cs.toList = some (d, p)) (hb : Below W.heap.size W W') :
  ∃ p', DataW.TrodVars enc Tryd.prog W' (fun b => decide (b < W.heap.size)) ["loop.example/cothreads/impl.opTexts"] [d] p' := by
 obtain ⟨fuel, hd⟩ := hd
 have hT : DataW.Trod enc Tryd.prog W 0 (fun _ => true) true 81 (.agg cs) d p := ⟨fuel, hd⟩
 obtain ⟨fuel', h2⟩ := Below.trod laidOut (by kernel_rfl) (of_decide_eq_true (by kernel_rfl)) hT hb (DataW.trod_lt fuel _ _ _ hd)
 exact ⟨_, trodVars_mk1 (g := 0) (t := 81) (by kernel_rfl) (by kernel_rfl) (PA.var_below hv hb) h2⟩
end Go.Proofs.YtjamfkpgmkhbnaaDoor.LaidT


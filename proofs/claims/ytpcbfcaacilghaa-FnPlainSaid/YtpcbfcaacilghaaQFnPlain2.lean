/- Part 3 of the proof of FnPlain. -/
import Derived.Test.YtpcbfcaacilghaaQFnPlain1
set_option maxHeartbeats 8000000
set_option maxRecDepth 100000
namespace Go.Proofs.Ytpcbfcaacilghaa.PA
open Go.RowKit Go.Proofs.YtpcbfcaacilghaaW.PrintWords Go.Proofs.YtpcbfcaacilghaaW.PrintLast Go.Proofs.YtpcbfcaacilghaaW.PrintMore
attribute [local go_sem] max2_int min2_int max_two min_two max_three min_three max_four min_four
set_option linter.unusedVariables false
set_option linter.unusedSimpArgs false
theorem any_inv {P : Program} {ops : Array Oper} {Q : Exit → Act → World → Prop} {n : Nat} {T : Bool × List (List Nat × List Nat)} (hn : ops.size = n) (hT : rtab .any ops = T)
  (hac : (List.range n).all (fun i => match T.2[i]? with | some r => r.1.all (fun j => decide (j < i)) | none => false) = true)
  (I : (Nat → Bool) → Act → World → Prop)
  (hstep : ∀ (i : Nat) (b : Nat → Bool) (a : Act) (w : World), i < n → b i = false → (∀ r, T.2[i]? = some r → ∀ j ∈ r.1, b j = true) → (∀ j r, b j = true → T.2[j]? = some r → ∀ q ∈ r.1, b q = true) → I b a w → wpOp P ops Q i (fun a' w' => I (fun j => if j = i then true else b j) a' w') a w)
  (hdone : ∀ (b : Nat → Bool) (a : Act) (w : World), (∀ j, j < n → b j = true) → I b a w → Q .normal a w)
  (a : Act) (w : World) (h0 : I (fun _ => false) a w) : wpAny P .any ops Q n (Array.replicate n false) a w := by
 have key : ∀ (fuel : Nat) (l : Array Bool) (a : Act) (w : World), l.size = n → ((List.range n).countP (fun j => !l.getD j false)) ≤ fuel →
   (∀ j r, l.getD j false = true → T.2[j]? = some r → ∀ q ∈ r.1, l.getD q false = true) → I (fun j => l.getD j false) a w → wpAny P .any ops Q fuel l a w := by
  have all_of : ∀ l : Array Bool, l.size = n → Region.ready .any ops l = [] → ∀ j, j < n → l.getD j false = true := by
   intro l hl hr j
   induction j using Nat.strongRecOn with
   | _ j ih =>
   intro hj
   cases hb : l.getD j false with
   | true => rfl
   | false =>
    have hm : j ∈ Region.ready .any ops l := by
     rw [ready_eq, hT]
     unfold readyT
     have hlen : T.2.length = n := by rw [← hT, rtab_length, hn]
     rw [List.mem_filter, List.mem_range, hlen]
     refine ⟨hj, ?_⟩
     unfold readyAt
     have e1 : l.toList.getD j true = false := by
      rw [← gd]
      have hlt : j < l.size := by omega
      simp only [Array.getD_eq_getD_getElem?, Array.getElem?_eq_getElem hlt, Option.getD_some] at hb ⊢
      exact hb
     rw [e1]
     have h1 := List.all_eq_true.1 hac j (List.mem_range.2 hj)
     cases hq : T.2[j]? with
     | none => rw [hq] at h1; cases h1
     | some r =>
      rw [hq] at h1
      simp only [List.all_eq_true, decide_eq_true_eq] at h1
      simp only [Bool.not_false, Bool.true_and, List.all_eq_true]
      intro q hqm
      rw [← gd]
      exact ih q (h1 q hqm) (by have := h1 q hqm; omega)
    rw [hr] at hm
    cases hm
  intro fuel
  induction fuel with
  | zero =>
   intro l a w hl hc hcl hI
   have hall : ∀ j, j < n → l.getD j false = true := by
    intro j hj
    have := List.countP_eq_zero.1 (Nat.le_zero.1 hc) j (List.mem_range.2 hj)
    simpa using this
   refine ⟨?_, hdone _ a w hall hI⟩
   cases hr : Region.ready .any ops l with
   | nil => rfl
   | cons i rs =>
    have hm : i ∈ Region.ready .any ops l := by rw [hr]; exact List.mem_cons_self
    obtain ⟨h1, o, h2, _⟩ := mem_ready.1 hm
    have hi : i < l.size := by rw [hl, ← hn]; exact (Array.getElem?_eq_some_iff.1 h2).1
    have := hall i (by omega)
    simp only [Array.getD_eq_getD_getElem?, Array.getElem?_eq_getElem hi, Option.getD_some] at h1 this
    rw [h1] at this
    cases this
  | succ fuel ih =>
   intro l a w hl hc hcl hI
   refine ⟨fun hr => hdone _ a w (all_of l hl hr) hI, fun i hm => ?_⟩
   obtain ⟨h1, o, h2, h3⟩ := mem_ready.1 hm
   have hi : i < n := by rw [← hn]; exact (Array.getElem?_eq_some_iff.1 h2).1
   have hil : i < l.size := by omega
   have hbi : l.getD i false = false := by
    simp only [Array.getD_eq_getD_getElem?, Array.getElem?_eq_getElem hil, Option.getD_some] at h1 ⊢
    exact h1
   have hneed : ∀ r, T.2[i]? = some r → ∀ j ∈ r.1, l.getD j false = true := by
    intro r hr j hj
    rw [ready_eq, hT] at hm
    unfold readyT at hm
    have := (List.mem_filter.1 hm).2
    unfold readyAt at this
    rw [hr, Bool.and_eq_true] at this
    have h5 := List.all_eq_true.1 this.2 j hj
    rw [← gd] at h5
    exact h5
   have hf : ∀ j, (l.setIfInBounds i true).getD j false = if j = i then true else l.getD j false := by
    intro j
    by_cases hji : j = i
    ·subst hji
     rw [if_pos rfl]
     simp [Array.getD_eq_getD_getElem?, hil]
    rw [if_neg hji]
    simp [Array.getD_eq_getD_getElem?, Array.getElem?_setIfInBounds, Ne.symm hji]
   refine wpOp_mono (fun a' w' h' => ih _ a' w' (by rw [Array.size_setIfInBounds]; exact hl) ?_ ?_ ?_) (hstep i (fun j => l.getD j false) a w hi hbi hneed hcl hI)
   ·have hlt : (List.range n).countP (fun j => !(l.setIfInBounds i true).getD j false) < (List.range n).countP (fun j => !l.getD j false) := by
     rw [List.countP_eq_length_filter, List.countP_eq_length_filter]
     have hsub : ((List.range n).filter (fun j => !(l.setIfInBounds i true).getD j false)) = (((List.range n).filter (fun j => !l.getD j false)).filter (fun j => !(j == i))) := by
      rw [List.filter_filter]
      refine List.filter_congr (fun j _ => ?_)
      rw [hf j]
      by_cases hji : j = i
      ·subst hji
       simp
      rw [if_neg hji]
      simp [hji]
     rw [hsub]
     have hmem : i ∈ (List.range n).filter (fun j => !l.getD j false) := List.mem_filter.2 ⟨List.mem_range.2 hi, by rw [hbi]; rfl⟩
     exact List.length_filter_lt_length_iff_exists.2 ⟨i, hmem, by simp⟩
    omega
   ·intro j r hj hr q hq
    rw [hf] at hj ⊢
    by_cases hji : j = i
    ·subst hji
     split
     ·rfl
     ·exact hneed r hr q hq
    rw [if_neg hji] at hj
    split
    ·rfl
    ·exact hcl j r hj hr q hq
   ·have : (fun j => (l.setIfInBounds i true).getD j false) = fun j => if j = i then true else l.getD j false := funext hf
    rw [this]
    exact h'
 have hz : ∀ j, (Array.replicate n false).getD j false = false := by
  intro j
  simp only [Array.getD_eq_getD_getElem?, Array.getElem?_replicate]
  split <;> rfl
 refine key n _ a w (by simp) ?_ ?_ ?_
 ·exact Nat.le_trans List.countP_le_length (by rw [List.length_range]; exact Nat.le_refl _)
 ·intro j r hj
  rw [hz] at hj
  cases hj
 ·have : (fun j => (Array.replicate n false).getD j false) = fun _ => false := funext hz
  rw [this]
  exact h0
theorem zz_ {b : Nat → Bool} {j q : Nat} (h : b j = true → b q = true) (hq : b q = false) : b j = false := by
 cases e : b j with
 | false => rfl
 | true => rw [h e] at hq; cases hq
theorem empty_V {α : Type} (d : Kd α) (e : Nat) (w : World) (base : Nat) (A : Option Addr) (c : Nat) : Kd.V d e w base (fun _ => False) (.slice A ([] : List α).length c) [] :=
 ⟨A, c, rfl, Nat.zero_le _, fun W' _ => ⟨rfl, by simp, fun h => absurd h (Nat.lt_irrefl 0)⟩⟩
theorem empty_F {α : Type} (d : Kd α) (w : World) (ok : Nat → Prop) (A : Option Addr) : Kd.F d w ok A ([] : List α).length [] := fun W' _ => ⟨rfl, by simp, fun h => absurd h (Nat.lt_irrefl 0)⟩
theorem leaf_lit (a b : Int) (w : World) : Calls Try.prog 63 #[.int .i64 a, .int .i64 b] w fun e w' => ∃ A c, e = .returned (.agg #[.int .i64 a, .int .i64 b, .slice A 0 c]) ∧ Below w.heap.size w w' := by
 refine (spec_l4Leaf.calls a b a b [] w rfl).mono ?_
 rintro e w' ⟨v, rfl, hr, hb⟩
 obtain ⟨A, c, rfl⟩ := Kd.N_slice (Kd.R_N hr)
 exact ⟨A, c, rfl, hb⟩
theorem both_lit (o a1 b1 : Int) (A1 : Option Addr) (c1 : Nat) (a2 b2 : Int) (A2 : Option Addr) (c2 : Nat) (w : World) : Calls Try.prog 94 #[.int .i64 o, .agg #[.int .i64 a1, .int .i64 b1, .slice A1 0 c1], .agg #[.int .i64 a2, .int .i64 b2, .slice A2 0 c2]] w fun e w' => ∃ A c, e = .returned (.agg #[.int .i64 o, .int .i64 0, .slice A 2 c]) ∧ Kd.N k34 34 w' w.heap.size (fun k => w.heap.size ≤ k) (.slice A 2 c) [⟨a1, b1, []⟩, ⟨a2, b2, []⟩] ∧ Below w.heap.size w w' := by
 refine (spec_l4Both.calls o a1 b1 (fun _ => False) A1 c1 [] a2 b2 (fun _ => False) A2 c2 [] o 0 [⟨a1, b1, []⟩, ⟨a2, b2, []⟩] w (empty_V k34 34 w _ A1 c1) (empty_V k34 34 w _ A2 c2) rfl).mono ?_
 rintro e w' ⟨v, rfl, hr, hb⟩
 obtain ⟨A, c, rfl⟩ := Kd.N_slice hr
 exact ⟨A, c, rfl, Kd.N_mono hr (fun k hk => hk.elim (fun h => h.elim False.elim False.elim) id), hb⟩
structure F92 (w0 w W0 : World) (g h2 : Nat) (s0_0 : List Int) (t355 t377 t378 : Int) (v8 : Value) (t352 : List S37) (A30 : Option Addr) (c30 : Nat) (A33 : Option Addr) (c33 : Nat) (A34 : Option Addr) (c34 : Nat) (g10 : Nat) (b3 b6 b9 b10 b12 b13 : Bool) (W : World) : Prop where
 hK : KeepBut W0 W g (cond b10 v8.ownBlock none)
 hI : IsS66 w0 W g s0_0 (cond b3 t378 t355)
 hB : Below w0.heap.size w0 W
 h30 : b6 = true → Kd.N k34 34 W W0.heap.size (fun k => W0.heap.size ≤ k ∧ (b12 = true → k ≠ g10)) (.slice A30 2 c30) [⟨13, 3, []⟩, ⟨0, wrap64 (1 + t377), []⟩]
 h33 : b9 = true → Kd.N k37 37 W h2 (fun k => h2 ≤ k ∧ (b12 = true → k ≠ g10)) (.slice A33 1 c33) [(⟨1, 3, 0, ⟨8, 0, [⟨13, 3, []⟩, ⟨0, 1, []⟩]⟩, [], []⟩ : S37)]
 h34 : b10 = true → Kd.N k37 37 W w.heap.size (fun k => w.heap.size ≤ k ∧ (b12 = true → k ≠ g10)) (.slice A34 (t352 ++ [(⟨1, 3, 0, ⟨8, 0, [⟨13, 3, []⟩, ⟨0, 1, []⟩]⟩, [], []⟩ : S37)]).length c34) (t352 ++ [(⟨1, 3, 0, ⟨8, 0, [⟨13, 3, []⟩, ⟨0, 1, []⟩]⟩, [], []⟩ : S37)])
 h10 : b12 = true → W0.heap.size ≤ g10 ∧ W.heap[g10]? = some (.cells (cond b13 #[.int .i64 3, .int .i64 0, .int .i64 0, .int .i64 5, .int .i64 0, .slice A30 2 c30, .slice A34 (t352 ++ [(⟨1, 3, 0, ⟨8, 0, [⟨13, 3, []⟩, ⟨0, 1, []⟩]⟩, [], []⟩ : S37)]).length c34, .slice none 0 0] #[.int .i64 0, .int .i64 0, .int .i64 0, .int .i64 0, .int .i64 0, .slice none 0 0, .slice none 0 0, .slice none 0 0]) 37 (0, 0))
theorem F92.ext {w0 w W0 : World} {g h2 : Nat} {s0_0 : List Int} {t355 t377 t378 : Int} {v8 : Value} {t352 : List S37} {A30 : Option Addr} {c30 : Nat} {A33 : Option Addr} {c33 : Nat} {A34 : Option Addr} {c34 : Nat} {g10 : Nat} {b3 b6 b9 b10 b12 b13 : Bool} {W W' : World}
  (h : F92 w0 w W0 g h2 s0_0 t355 t377 t378 v8 t352 A30 c30 A33 c33 A34 c34 g10 b3 b6 b9 b10 b12 b13 W) (hb : Below W.heap.size W W') : F92 w0 w W0 g h2 s0_0 t355 t377 t378 v8 t352 A30 c30 A33 c33 A34 c34 g10 b3 b6 b9 b10 b12 b13 W' :=
 ⟨h.hK.trans (KeepBut.of_below hb g _) (.inl rfl), h.hI.below hb, below_step h.hB hb, fun e => Kd.N_below (h.h30 e) hb, fun e => Kd.N_below (h.h33 e) hb, fun e => Kd.N_below (h.h34 e) hb, fun e => ⟨(h.h10 e).1, blk_below (h.h10 e).2 hb⟩⟩
def a92 (g g9 : Nat) (a1 a2 t350 t377 : Int) (v8 : Value) (t352 : List S37) (A20 : Option Addr) (c20 : Nat) (A21 : Option Addr) (c21 : Nat) (A22 : Option Addr) (c22 : Nat) (A1 : Option Addr) (c1 : Nat) (A2 : Option Addr) (c2 : Nat) (A30 : Option Addr) (c30 : Nat) (A33 : Option Addr) (c33 : Nat) (A34 : Option Addr) (c34 : Nat) (g10 : Nat) (b0 b1 b2 b3 b4 b5 b6 b7 b8 b9 b10 b11 b12 b13 : Bool) : Act :=
 { tmps := #[(.pointer (some ⟨g, 0, none⟩)), (.int .i64 a1), (.int .i64 a2), undef, undef, undef, (.slice none 0 0), (.int .i64 3), v8, (.pointer (some ⟨g9, 0, none⟩)), cond b12 (.pointer (some ⟨g10, 0, none⟩)) undef, (.pointer (some ⟨g, 0, none⟩)), (.int .i64 a1), (.int .i64 a2), (.int .i64 (wrap64 (a2 - 1))), (.pointer (some ⟨g, 0, none⟩)), (.int .i64 t350), v8, (.int .i64 3), (.int .i64 3), (.agg #[.int .i64 13, .int .i64 3, .slice A20 0 c20]), (.agg #[.int .i64 0, .int .i64 1, .slice A21 0 c21]), (.agg #[.int .i64 8, .int .i64 0, .slice A22 2 c22]), (.agg #[.int .i64 1, .int .i64 3, .int .i64 0, .int .i64 8, .int .i64 0, .slice A22 2 c22, .slice none 0 0, .slice none 0 0]), cond b0 (.int .i64 3) undef, cond b1 (.agg #[.int .i64 13, .int .i64 3, .slice A1 0 c1]) undef, cond b2 (.pointer (some ⟨g, 0, none⟩)) undef, cond b3 (.int .i64 t377) undef, cond b4 (.int .i64 (wrap64 (1 + t377))) undef, cond b5 (.agg #[.int .i64 0, .int .i64 (wrap64 (1 + t377)), .slice A2 0 c2]) undef, cond b6 (.agg #[.int .i64 5, .int .i64 0, .slice A30 2 c30]) undef, cond b7 v8 undef, cond b8 (.agg #[.int .i64 1, .int .i64 3, .int .i64 0, .int .i64 8, .int .i64 0, .slice A22 2 c22, .slice none 0 0, .slice none 0 0]) undef, cond b9 (.slice A33 1 c33) undef, cond b10 (.slice A34 (t352 ++ [(⟨1, 3, 0, ⟨8, 0, [⟨13, 3, []⟩, ⟨0, 1, []⟩]⟩, [], []⟩ : S37)]).length c34) undef, cond b11 (.agg #[.int .i64 3, .int .i64 0, .int .i64 0, .int .i64 5, .int .i64 0, .slice A30 2 c30, .slice A34 (t352 ++ [(⟨1, 3, 0, ⟨8, 0, [⟨13, 3, []⟩, ⟨0, 1, []⟩]⟩, [], []⟩ : S37)]).length c34, .slice none 0 0]) undef, undef, undef, undef, undef, undef], defers := [] }
def L92 (w0 w W0 : World) (g g9 h2 : Nat) (s0_0 : List Int) (a1 a2 t350 t355 t377 t378 : Int) (v8 : Value) (t352 : List S37) (A20 : Option Addr) (c20 : Nat) (A21 : Option Addr) (c21 : Nat) (A22 : Option Addr) (c22 : Nat) (b0 b1 b2 b3 b4 b5 b6 b7 b8 b9 b10 b11 b12 b13 : Bool) (a : Act) (W : World) : Prop :=
 ∃ (A1 : Option Addr) (c1 : Nat) (A2 : Option Addr) (c2 : Nat) (A30 : Option Addr) (c30 : Nat) (A33 : Option Addr) (c33 : Nat) (A34 : Option Addr) (c34 : Nat) (g10 : Nat), a = a92 g g9 a1 a2 t350 t377 v8 t352 A20 c20 A21 c21 A22 c22 A1 c1 A2 c2 A30 c30 A33 c33 A34 c34 g10 b0 b1 b2 b3 b4 b5 b6 b7 b8 b9 b10 b11 b12 b13 ∧ F92 w0 w W0 g h2 s0_0 t355 t377 t378 v8 t352 A30 c30 A33 c33 A34 c34 g10 b3 b6 b9 b10 b12 b13 W
def spec_l92Loop.T4 : Bool × List (List Nat × List Nat) := (true, [([], []), ([0], [0]), ([], []), ([2, 1], [2]), ([3], [3]), ([4, 3], [4]), ([1, 5, 5], [1, 5]), ([], []), ([], []), ([8], [8]), ([7, 9, 6], [7, 9]), ([6, 10], [6, 10]), ([], []), ([12, 11, 10, 0, 1, 2, 3, 4, 5, 6, 7, 8, 9, 10, 11, 12], [11, 12])])
theorem spec_l92Loop.tab4 : rtab .any (opsOf Try.f89 4) = spec_l92Loop.T4 := by kernel_rfl
theorem spec_l92Loop.step (k : Nat) (ih_spec_l92If : ∀ m, m < k → spec_l92If.CallsAt m) (ih_spec_l92Loop : ∀ m, m < k → spec_l92Loop.CallsAt m) (ih_spec_l92Stmt : ∀ m, m < k → spec_l92Stmt.CallsAt m) (ih_spec_l92Block : ∀ m, m < k → spec_l92Block.CallsAt m) : spec_l92Loop.CallsAt k := by
 intro g s0_0 s0_1 a1 a2 r1 r2 w0 w hI hB h
 cases k with
 | zero => exact absurd h (by simp [spec_l92Loop.f])
 | succ k =>
 simp only [spec_l92Loop.f] at h
 replace h := Option.bind_eq_some_iff.mp h
 obtain ⟨⟨t350, t351⟩, hp, h⟩ := h
 replace h := Option.bind_eq_some_iff.mp h
 obtain ⟨⟨t352, t355⟩, hbk, h⟩ := h
 simp only [spec_l4Leaf.f, spec_l4Both.f, Option.bind_some] at h
 replace h := Option.bind_eq_some_iff.mp h
 obtain ⟨⟨t377, t378⟩, hp2, h⟩ := h
 dsimp only at h hp2 hbk
 by_cases c13 : t352.length + 1 < 1256584717458
 case neg =>
  rw [if_neg (by simpa using c13)] at h
  exact absurd h (by simp)
 rw [if_pos (by simpa using c13)] at h
 have h1 := Option.some.inj h
 injection h1 with h1 h2
 subst h2
 have A4 := am hp
 have A5 := am hbk
 have A10 := am hp2
 have LM := am c13
 have HR := am h1
 have HI := am hI
 have HB := am hB
 have HK := am (KeepBut.refl w g none)
 have HGW := am (IsS66.lt hI)
 clear h1 h hp hbk hp2 c13 hI hB
 go_enter Try.func89, Try.ntmps89
 go_wp2_with (first | ((with_reducible refine gate_callee (f := 50) rfl ?_); refine goesL_ (some 16) rfl rfl Try.func50 (by kernel_rfl) rfl #[.pointer (some ⟨g, 0, none⟩), .int .i64 3] rfl (by (try simp only [List.map_toArray, List.map_cons, List.map_nil]); first | done | rfl) ?_; (with_reducible refine (spec_l6Rd_pick.calls k g s0_0 s0_1 3 t350 t351 w0 _ ?side1 ?side2 A4.out).mono ?_); (case side1 => repeat (first | (with_reducible first | exact HI.out | apply IsS66.drewN | apply IsS66.drew) | exact HI.out)); (case side2 => repeat (first | (with_reducible first | exact HB.out | apply pw_below_drewN | apply below_drew1) | exact HB.out)); rintro e w15 ⟨rfl, hi, hb, hk⟩; refine ⟨_, rfl, ?_⟩; have n0_ := am (KeepBut.trans ab94_ hk (.inl rfl)); clear HK HB HI; have HK := n0_; have HB := am hb; have HI := am hi; have HS15 := am HK.out.1; clear n0_ hb hk hi) | ((with_reducible refine gate_callee (f := 70) rfl ?_); refine goesL_ (some 17) rfl rfl Try.func70 (by kernel_rfl) rfl #[.pointer (some ⟨g, 0, none⟩), .int .i64 a1, .int .i64 (wrap64 (a2 - 1)), .int .i64 t350, .bool false] rfl (by (try simp only [List.map_toArray, List.map_cons, List.map_nil]); first | done | rfl) ?_; (with_reducible refine (ih_spec_l92Block k (by omega) g s0_0 t351 a1 (wrap64 (a2 - 1)) t350 false t352 t355 w0 _ ?side1 ?side2 A5.out).mono ?_); (case side1 => repeat (first | (with_reducible first | exact HI.out | apply IsS66.drewN | apply IsS66.drew) | exact HI.out)); (case side2 => repeat (first | (with_reducible first | exact HB.out | apply pw_below_drewN | apply below_drew1) | exact HB.out)); rintro e w16 ⟨v8, rfl, ho0, hi, hb, hk⟩; refine ⟨_, rfl, ?_⟩; have n0_ := am (KeepBut.trans ab94_ hk (.inl rfl)); have n1_ := am (Kd.N_lower ho0 (by repeat (first | exact HK.out.1 | apply keep_drewN | apply keep_drew))); clear HK HB HI; have HK := n0_; have HB := am hb; have HI := am hi; have H8 := n1_; clear n0_ n1_ hb hk hi ho0) | ((with_reducible refine gate_callee (f := 63) rfl ?_); refine goesL_ (some 20) rfl rfl Try.func63 (by kernel_rfl) rfl #[.int .i64 13, .int .i64 3] rfl (by (try simp only [List.map_toArray, List.map_cons, List.map_nil]); first | done | rfl) ?_; (with_reducible refine (leaf_lit 13 3 _).mono ?_); rintro e w17 ⟨A20, c20, rfl, hb⟩; refine ⟨_, rfl, ?_⟩; have B17 := am hb; clear hb) | ((with_reducible refine gate_callee (f := 63) rfl ?_); refine goesL_ (some 21) rfl rfl Try.func63 (by kernel_rfl) rfl #[.int .i64 0, .int .i64 1] rfl (by (try simp only [List.map_toArray, List.map_cons, List.map_nil]); first | done | rfl) ?_; (with_reducible refine (leaf_lit 0 1 _).mono ?_); rintro e w18 ⟨A21, c21, rfl, hb⟩; refine ⟨_, rfl, ?_⟩; have B18 := am hb; clear hb) | ((with_reducible refine gate_callee (f := 94) rfl ?_); refine goesL_ (some 22) rfl rfl Try.func94 (by kernel_rfl) rfl #[.int .i64 8, .agg #[.int .i64 13, .int .i64 3, .slice A20 0 c20], .agg #[.int .i64 0, .int .i64 1, .slice A21 0 c21]] rfl (by (try simp only [List.map_toArray, List.map_cons, List.map_nil]); first | done | rfl) ?_; (with_reducible refine (both_lit 8 13 3 A20 c20 0 1 A21 c21 _).mono ?_); rintro e w19 ⟨A22, c22, rfl, hn22, hb⟩; refine ⟨_, rfl, ?_⟩; have N22 := am hn22; have B19 := am hb; clear hb hn22) | ((with_reducible refine gate_dst (N := 9) rfl ?_); refine box_event (N := 9) ?hg ?hd (cs := #[.int .i64 0, .int .i64 0, .int .i64 0, .int .i64 0, .int .i64 0, .slice none 0 0, .slice none 0 0, .slice none 0 0]) (t := 37) ?hr ?_; (case hd => rfl); (case hg => rfl); (case hr => first | (go_simp; done) | (go_simp; rfl)); intro g9 hg w20 hbox hb; have HG9 := am (Nat.le_of_eq hg.symm); have B20 := am hb; have X9 := am hbox; have z9 := blk_frozen hbox 0; have z91 := blk_frozen hbox 1; have z92 := blk_frozen hbox 2; have z93 := blk_frozen hbox 3; have z94 := blk_frozen hbox 4; have z95 := blk_frozen hbox 5; have z96 := blk_frozen hbox 6; have z97 := blk_frozen hbox 7; have y90 := blk_cell hbox 0;  have y91 := blk_cell hbox 1; have y92 := blk_cell hbox 2; have y93 := blk_cell hbox 3; have y94 := blk_cell hbox 4; have y95 := blk_cell hbox 5; have y96 := blk_cell hbox 6; have y97 := blk_cell hbox 7; clear hb hg hbox) | fail)
 have HB9 : Aside0 (Below w16.heap.size w16 w19) := ⟨below_step (below_step B17.out B18.out) B19.out⟩
 have h1619 := HB9.out.size
 have h1920 := B20.out.size
 have h1819 := B19.out.size
 have h1618 := (below_step B17.out B18.out).size
 have h9lt := blk_lt X9.out
 have hg9 := HG9.out
 have hw16 := HK.out.1
 have hgw0 := HGW.out
 have b20 : Below w16.heap.size w16 w20 := below_step HB9.out B20.out
 have HWQ : Aside0 (Below w16.heap.size w16 ((((((((w20.setCell ⟨g9, 0, none⟩ (.int .i64 1)).setCell ⟨g9, 1, none⟩ (.int .i64 3)).setCell ⟨g9, 2, none⟩ (.int .i64 0)).setCell ⟨g9, 3, none⟩ (.int .i64 8)).setCell ⟨g9, 4, none⟩ (.int .i64 0)).setCell ⟨g9, 5, none⟩ (.slice A22 2 c22)).setCell ⟨g9, 6, none⟩ (.slice none 0 0)).setCell ⟨g9, 7, none⟩ (.slice none 0 0))) := ⟨(below_set (j := 7) (v := (.slice none 0 0)) (below_set (j := 6) (v := (.slice none 0 0)) (below_set (j := 5) (v := (.slice A22 2 c22)) (below_set (j := 4) (v := (.int .i64 0)) (below_set (j := 3) (v := (.int .i64 8)) (below_set (j := 2) (v := (.int .i64 0)) (below_set (j := 1) (v := (.int .i64 3)) (below_set (j := 0) (v := (.int .i64 1)) b20 (by omega)) (by omega)) (by omega)) (by omega)) (by omega)) (by omega)) (by omega)) (by omega))⟩
 have X9' : Aside0 (((((((((w20.setCell ⟨g9, 0, none⟩ (.int .i64 1)).setCell ⟨g9, 1, none⟩ (.int .i64 3)).setCell ⟨g9, 2, none⟩ (.int .i64 0)).setCell ⟨g9, 3, none⟩ (.int .i64 8)).setCell ⟨g9, 4, none⟩ (.int .i64 0)).setCell ⟨g9, 5, none⟩ (.slice A22 2 c22)).setCell ⟨g9, 6, none⟩ (.slice none 0 0)).setCell ⟨g9, 7, none⟩ (.slice none 0 0)).heap[g9]? = some (.cells #[(.int .i64 1), (.int .i64 3), (.int .i64 0), (.int .i64 8), (.int .i64 0), (.slice A22 2 c22), (.slice none 0 0), (.slice none 0 0)] 37 (0, 0))) := ⟨(blk_put (cs' := #[(.int .i64 1), (.int .i64 3), (.int .i64 0), (.int .i64 8), (.int .i64 0), (.slice A22 2 c22), (.slice none 0 0), (.slice none 0 0)]) (blk_put (cs' := #[(.int .i64 1), (.int .i64 3), (.int .i64 0), (.int .i64 8), (.int .i64 0), (.slice A22 2 c22), (.slice none 0 0), (.slice none 0 0)]) (blk_put (cs' := #[(.int .i64 1), (.int .i64 3), (.int .i64 0), (.int .i64 8), (.int .i64 0), (.slice A22 2 c22), (.slice none 0 0), (.slice none 0 0)]) (blk_put (cs' := #[(.int .i64 1), (.int .i64 3), (.int .i64 0), (.int .i64 8), (.int .i64 0), (.slice none 0 0), (.slice none 0 0), (.slice none 0 0)]) (blk_put (cs' := #[(.int .i64 1), (.int .i64 3), (.int .i64 0), (.int .i64 8), (.int .i64 0), (.slice none 0 0), (.slice none 0 0), (.slice none 0 0)]) (blk_put (cs' := #[(.int .i64 1), (.int .i64 3), (.int .i64 0), (.int .i64 0), (.int .i64 0), (.slice none 0 0), (.slice none 0 0), (.slice none 0 0)]) (blk_put (cs' := #[(.int .i64 1), (.int .i64 3), (.int .i64 0), (.int .i64 0), (.int .i64 0), (.slice none 0 0), (.slice none 0 0), (.slice none 0 0)]) (blk_put (cs' := #[(.int .i64 1), (.int .i64 0), (.int .i64 0), (.int .i64 0), (.int .i64 0), (.slice none 0 0), (.slice none 0 0), (.slice none 0 0)]) X9.out 0 (.int .i64 1) rfl) 1 (.int .i64 3) rfl) 2 (.int .i64 0) rfl) 3 (.int .i64 8) rfl) 4 (.int .i64 0) rfl) 5 (.slice A22 2 c22) rfl) 6 (.slice none 0 0) rfl) 7 (.slice none 0 0) rfl)⟩
 have N22' : Aside0 (Kd.N k34 34 ((((((((w20.setCell ⟨g9, 0, none⟩ (.int .i64 1)).setCell ⟨g9, 1, none⟩ (.int .i64 3)).setCell ⟨g9, 2, none⟩ (.int .i64 0)).setCell ⟨g9, 3, none⟩ (.int .i64 8)).setCell ⟨g9, 4, none⟩ (.int .i64 0)).setCell ⟨g9, 5, none⟩ (.slice A22 2 c22)).setCell ⟨g9, 6, none⟩ (.slice none 0 0)).setCell ⟨g9, 7, none⟩ (.slice none 0 0)) w18.heap.size (fun k => (w18.heap.size ≤ k ∧ k < w19.heap.size) ∧ k ≠ g9) (.slice A22 2 c22) [⟨13, 3, []⟩, ⟨0, 1, []⟩]) := ⟨(Kd.N_far (p := ⟨g9, 7, none⟩) (Kd.N_far (p := ⟨g9, 6, none⟩) (Kd.N_far (p := ⟨g9, 5, none⟩) (Kd.N_far (p := ⟨g9, 4, none⟩) (Kd.N_far (p := ⟨g9, 3, none⟩) (Kd.N_far (p := ⟨g9, 2, none⟩) (Kd.N_far (p := ⟨g9, 1, none⟩) (Kd.N_far (p := ⟨g9, 0, none⟩) (Kd.N_mono (Kd.N_below (Kd.N_bound N22.out) B20.out) (fun q (hq : w18.heap.size ≤ q ∧ q < w19.heap.size) => (⟨hq, by have := hq.2; omega⟩ : (w18.heap.size ≤ q ∧ q < w19.heap.size) ∧ q ≠ g9))) (fun q hq => hq.2) (.int .i64 1)) (fun q hq => hq.2) (.int .i64 3)) (fun q hq => hq.2) (.int .i64 0)) (fun q hq => hq.2) (.int .i64 8)) (fun q hq => hq.2) (.int .i64 0)) (fun q hq => hq.2) (.slice A22 2 c22)) (fun q hq => hq.2) (.slice none 0 0)) (fun q hq => hq.2) (.slice none 0 0))⟩
 clear y90 y91 y92 y93 y94 y95 y96 y97 z9 z91 z92 z93 z94 z95 z96 z97 X9
 generalize ((((((((w20.setCell ⟨g9, 0, none⟩ (.int .i64 1)).setCell ⟨g9, 1, none⟩ (.int .i64 3)).setCell ⟨g9, 2, none⟩ (.int .i64 0)).setCell ⟨g9, 3, none⟩ (.int .i64 8)).setCell ⟨g9, 4, none⟩ (.int .i64 0)).setCell ⟨g9, 5, none⟩ (.slice A22 2 c22)).setCell ⟨g9, 6, none⟩ (.slice none 0 0)).setCell ⟨g9, 7, none⟩ (.slice none 0 0)) = w27 at HWQ X9' N22' ⊢
 have h27 := HWQ.out.size
 have h27' := blk_lt X9'.out
 refine wp_region_any (by kernel_rfl) ?_
 have B9 := am (blk_drew X9'.out)
 have N22_ := Kd.N_drew N22'.out
 have H8_ := Kd.N_drew (Kd.N_below (Kd.N_mono (Kd.N_bound H8.out) (fun q (hq : w15.heap.size ≤ q ∧ q < w16.heap.size) => (⟨by have := hq.1; have := HS15.out; omega, hq.2⟩ : w.heap.size ≤ q ∧ q < w16.heap.size))) HWQ.out)
 have HI_ := IsS66.drew (HI.out.below HWQ.out)
 have HB_ := below_drew1 (below_step HB.out HWQ.out)
 have HK_ := keep_drew (KeepBut.trans HK.out (KeepBut.of_below HWQ.out g none) (.inl rfl))
 have hsz : w27.drew.heap.size = w27.heap.size := rfl
 show wpAny _ _ _ _ _ _ _ w27.drew
 generalize w27.drew = W0 at B9 N22_ H8_ HI_ HB_ HK_ hsz ⊢
 have N22 : Aside0 (Kd.N k34 34 W0 w18.heap.size (fun k => w16.heap.size ≤ k ∧ k < W0.heap.size) (.slice A22 2 c22) [⟨13, 3, []⟩, ⟨0, 1, []⟩]) := ⟨Kd.N_mono N22_ (fun q hq => ⟨by have := hq.1.1; omega, by have := hq.1.2; omega⟩)⟩
 have H8' := am H8_
 have HI' := am HI_
 have HB' := am HB_
 have HK' := am HK_
 have H24 : Aside0 (w16.heap.size ≤ W0.heap.size) := ⟨by omega⟩
 have HH2 : Aside0 (w.heap.size ≤ w16.heap.size) := ⟨hw16⟩
 have NE9 : Aside0 (g9 ≠ g) := ⟨by omega⟩
 clear N22_ H8_ HI_ HB_ HK_ HI HB HK H8 N22' X9' HWQ b20 HB9 hsz h27 h27' h1619 h1920 h1819 h1618 h9lt hg9 B17 B18 B19 B20 HG9 HS15 hw16 hgw0
 generalize w16.heap.size = h2 at *
 have H8 := H8'
 clear H8'
 refine any_inv (n := 14) (T := spec_l92Loop.T4) rfl (by kernel_rfl) (by decide) (fun b a W => L92 w0 w W0 g g9 h2 s0_0 a1 a2 t350 t355 t377 t378 v8 t352 A20 c20 A21 c21 A22 c22 (b 0) (b 1) (b 2) (b 3) (b 4) (b 5) (b 6) (b 7) (b 8) (b 9) (b 10) (b 11) (b 12) (b 13) a W) ?hstep ?hdone _ _ ?hstart
 case hstart => exact ⟨none, 0, none, 0, none, 0, none, 0, none, 0, 0, rfl, ⟨KeepBut.refl _ _ _, HI'.out, HB'.out, (fun e => Bool.noConfusion e), (fun e => Bool.noConfusion e), (fun e => Bool.noConfusion e), (fun e => Bool.noConfusion e)⟩⟩
 case hstep =>
  intro i b a W hi hbi hneed hcl hI
  have hcase : i = 0 ∨ i = 1 ∨ i = 2 ∨ i = 3 ∨ i = 4 ∨ i = 5 ∨ i = 6 ∨ i = 7 ∨ i = 8 ∨ i = 9 ∨ i = 10 ∨ i = 11 ∨ i = 12 ∨ i = 13 := by omega
  rcases hcase with rfl | rfl | rfl | rfl | rfl | rfl | rfl | rfl | rfl | rfl | rfl | rfl | rfl | rfl
  ·
   have z1 := zz_ (fun h => hcl 1 _ h rfl 0 (by decide)) hbi
   have z3 := zz_ (fun h => hcl 3 _ h rfl 1 (by decide)) z1
   have z4 := zz_ (fun h => hcl 4 _ h rfl 3 (by decide)) z3
   have z5 := zz_ (fun h => hcl 5 _ h rfl 3 (by decide)) z3
   have z6 := zz_ (fun h => hcl 6 _ h rfl 1 (by decide)) z1
   have z10 := zz_ (fun h => hcl 10 _ h rfl 6 (by decide)) z6
   have z11 := zz_ (fun h => hcl 11 _ h rfl 6 (by decide)) z6
   have z13 := zz_ (fun h => hcl 13 _ h rfl 0 (by decide)) hbi
   simp only [hbi, z1, z3, z4, z5, z6, z10, z11, z13] at hI
   obtain ⟨A1, c1, A2, c2, A30, c30, A33, c33, A34, c34, g10, rfl, h⟩ := hI
   have hgw := HGW.out
   have hh2 := HH2.out
   have h24 := H24.out
   refine wpOp_step rfl (fun K' hK' => ?_)
   simp (decide := true) only [if_true, if_false, reduceIte, z1, z3, z4, z5, z6, z10, z11, z13] at hK'
   refine event_step (W := W) (w1 := W) (v := ?_) (by rfl) ?_ ?_
   rotate_left
   ·(try simp only [a92, cond_true, cond_false])
    go_simp
    first | with_reducible rfl | rfl
   refine hK' _ _ (⟨A1, c1, A2, c2, A30, c30, A33, c33, A34, c34, g10, ?_, h⟩)
   show Act.put _ (some 24) _ = _
   simp only [a92, Act.put, List.setIfInBounds_toArray, List.set_cons_zero, List.set_cons_succ, i64_w, i32_w]
   rfl
  ·
   have hn_ := hneed _ rfl
   have n0 := hn_ 0 (by decide)
   have z3 := zz_ (fun h => hcl 3 _ h rfl 1 (by decide)) hbi
   have z4 := zz_ (fun h => hcl 4 _ h rfl 3 (by decide)) z3
   have z5 := zz_ (fun h => hcl 5 _ h rfl 3 (by decide)) z3
   have z6 := zz_ (fun h => hcl 6 _ h rfl 1 (by decide)) hbi
   have z10 := zz_ (fun h => hcl 10 _ h rfl 6 (by decide)) z6
   have z11 := zz_ (fun h => hcl 11 _ h rfl 6 (by decide)) z6
   have z13 := zz_ (fun h => hcl 13 _ h rfl 1 (by decide)) hbi
   simp only [hbi, n0, z3, z4, z5, z6, z10, z11, z13] at hI
   obtain ⟨A1, c1, A2, c2, A30, c30, A33, c33, A34, c34, g10, rfl, h⟩ := hI
   have hgw := HGW.out
   have hh2 := HH2.out
   have h24 := H24.out
   refine wpOp_step rfl (fun K' hK' => ?_)
   simp (decide := true) only [if_true, if_false, reduceIte, n0, z3, z4, z5, z6, z10, z11, z13] at hK'
   refine goes_ Try.func63 (by kernel_rfl) rfl #[.int .i64 13, .int .i64 3] (by rfl) rfl rfl (by (try simp only [List.map_toArray, List.map_cons, List.map_nil]); first | done | rfl) ?_
   refine (leaf_lit 13 3 _).mono ?_
   rintro e W' ⟨A, c, rfl, hb⟩
   refine ⟨_, rfl, hK' _ _ (⟨A, c, A2, c2, A30, c30, A33, c33, A34, c34, g10, ?_, h.ext hb⟩)⟩
   show Act.put _ (some 25) _ = _
   simp only [a92, Act.put, List.setIfInBounds_toArray, List.set_cons_zero, List.set_cons_succ]
   rfl
  ·
   have z3 := zz_ (fun h => hcl 3 _ h rfl 2 (by decide)) hbi
   have z4 := zz_ (fun h => hcl 4 _ h rfl 3 (by decide)) z3
   have z5 := zz_ (fun h => hcl 5 _ h rfl 3 (by decide)) z3
   have z6 := zz_ (fun h => hcl 6 _ h rfl 5 (by decide)) z5
   have z10 := zz_ (fun h => hcl 10 _ h rfl 6 (by decide)) z6
   have z11 := zz_ (fun h => hcl 11 _ h rfl 6 (by decide)) z6
   have z13 := zz_ (fun h => hcl 13 _ h rfl 2 (by decide)) hbi
   simp only [hbi, z3, z4, z5, z6, z10, z11, z13] at hI
   obtain ⟨A1, c1, A2, c2, A30, c30, A33, c33, A34, c34, g10, rfl, h⟩ := hI
   have hgw := HGW.out
   have hh2 := HH2.out
   have h24 := H24.out
   refine wpOp_step rfl (fun K' hK' => ?_)
   simp (decide := true) only [if_true, if_false, reduceIte, z3, z4, z5, z6, z10, z11, z13] at hK'
   refine event_step (W := W) (w1 := W) (v := ?_) (by rfl) ?_ ?_
   rotate_left
   ·(try simp only [a92, cond_true, cond_false])
    go_simp
    first | with_reducible rfl | rfl
   refine hK' _ _ (⟨A1, c1, A2, c2, A30, c30, A33, c33, A34, c34, g10, ?_, h⟩)
   show Act.put _ (some 26) _ = _
   simp only [a92, Act.put, List.setIfInBounds_toArray, List.set_cons_zero, List.set_cons_succ, i64_w, i32_w]
   rfl
  ·
   have hn_ := hneed _ rfl
   have n1 := hn_ 1 (by decide)
   have n2 := hn_ 2 (by decide)
   have z4 := zz_ (fun h => hcl 4 _ h rfl 3 (by decide)) hbi
   have z5 := zz_ (fun h => hcl 5 _ h rfl 3 (by decide)) hbi
   have z6 := zz_ (fun h => hcl 6 _ h rfl 5 (by decide)) z5
   have z10 := zz_ (fun h => hcl 10 _ h rfl 6 (by decide)) z6
   have z11 := zz_ (fun h => hcl 11 _ h rfl 6 (by decide)) z6
   have z13 := zz_ (fun h => hcl 13 _ h rfl 3 (by decide)) hbi
   simp only [hbi, n1, n2, z4, z5, z6, z10, z11, z13] at hI
   obtain ⟨A1, c1, A2, c2, A30, c30, A33, c33, A34, c34, g10, rfl, h⟩ := hI
   have hgw := HGW.out
   have hh2 := HH2.out
   have h24 := H24.out
   refine wpOp_step rfl (fun K' hK' => ?_)
   simp (decide := true) only [if_true, if_false, reduceIte, n1, n2, z4, z5, z6, z10, z11, z13] at hK'
   refine goes_ Try.func50 (by kernel_rfl) rfl #[.pointer (some ⟨g, 0, none⟩), .int .i64 3] (by rfl) rfl rfl (by (try simp only [List.map_toArray, List.map_cons, List.map_nil]); first | done | rfl) ?_
   refine (spec_l6Rd_pick.calls k g s0_0 t355 3 t377 t378 w0 _ h.hI h.hB A10.out).mono ?_
   rintro e W' ⟨rfl, hi, hb, hk⟩
   have hlt := h.hK.1
   refine ⟨_, rfl, hK' _ _ (⟨A1, c1, A2, c2, A30, c30, A33, c33, A34, c34, g10, ?_, ⟨h.hK.trans hk ?_, hi, hb, fun e => Kd.N_keep (h.h30 e) hk (fun q hq => ?_), fun e => Kd.N_keep (h.h33 e) hk (fun q hq => ?_), fun e => Kd.N_keep (h.h34 e) hk (fun q hq => ?_), fun e => ⟨(h.h10 e).1, hk.blk (h.h10 e).2 ?_ (by simp)⟩⟩⟩)⟩
   ·show Act.put _ (some 27) _ = _
    simp only [a92, Act.put, List.setIfInBounds_toArray, List.set_cons_zero, List.set_cons_succ]
    rfl
   ·exact .inl rfl
   ·have := hq.1; omega
   ·have := hq.1; omega
   ·have := hq.1; omega
   ·have := (h.h10 e).1; omega
  ·
   have hn_ := hneed _ rfl
   have n3 := hn_ 3 (by decide)
   have z5 := zz_ (fun h => hcl 5 _ h rfl 4 (by decide)) hbi
   have z6 := zz_ (fun h => hcl 6 _ h rfl 5 (by decide)) z5
   have z10 := zz_ (fun h => hcl 10 _ h rfl 6 (by decide)) z6
   have z11 := zz_ (fun h => hcl 11 _ h rfl 6 (by decide)) z6
   have z13 := zz_ (fun h => hcl 13 _ h rfl 4 (by decide)) hbi
   simp only [hbi, n3, z5, z6, z10, z11, z13] at hI
   obtain ⟨A1, c1, A2, c2, A30, c30, A33, c33, A34, c34, g10, rfl, h⟩ := hI
   have hgw := HGW.out
   have hh2 := HH2.out
   have h24 := H24.out
   refine wpOp_step rfl (fun K' hK' => ?_)
   simp (decide := true) only [if_true, if_false, reduceIte, n3, z5, z6, z10, z11, z13] at hK'
   refine event_step (W := W) (w1 := W) (v := ?_) (by rfl) ?_ ?_
   rotate_left
   ·(try simp only [a92, cond_true, cond_false])
    go_simp
    first | with_reducible rfl | rfl
   refine hK' _ _ (⟨A1, c1, A2, c2, A30, c30, A33, c33, A34, c34, g10, ?_, h⟩)
   show Act.put _ (some 28) _ = _
   simp only [a92, Act.put, List.setIfInBounds_toArray, List.set_cons_zero, List.set_cons_succ, i64_w, i32_w]
   rfl
  ·
   have hn_ := hneed _ rfl
   have n3 := hn_ 3 (by decide)
   have n4 := hn_ 4 (by decide)
   have z6 := zz_ (fun h => hcl 6 _ h rfl 5 (by decide)) hbi
   have z10 := zz_ (fun h => hcl 10 _ h rfl 6 (by decide)) z6
   have z11 := zz_ (fun h => hcl 11 _ h rfl 6 (by decide)) z6
   have z13 := zz_ (fun h => hcl 13 _ h rfl 5 (by decide)) hbi
   simp only [hbi, n3, n4, z6, z10, z11, z13] at hI
   obtain ⟨A1, c1, A2, c2, A30, c30, A33, c33, A34, c34, g10, rfl, h⟩ := hI
   have hgw := HGW.out
   have hh2 := HH2.out
   have h24 := H24.out
   refine wpOp_step rfl (fun K' hK' => ?_)
   simp (decide := true) only [if_true, if_false, reduceIte, n3, n4, z6, z10, z11, z13] at hK'
   refine goes_ Try.func63 (by kernel_rfl) rfl #[.int .i64 0, .int .i64 (wrap64 (1 + t377))] (by rfl) rfl rfl (by (try simp only [List.map_toArray, List.map_cons, List.map_nil]); first | done | rfl) ?_
   refine (leaf_lit 0 (wrap64 (1 + t377)) _).mono ?_
   rintro e W' ⟨A, c, rfl, hb⟩
   refine ⟨_, rfl, hK' _ _ (⟨A1, c1, A, c, A30, c30, A33, c33, A34, c34, g10, ?_, h.ext hb⟩)⟩
   show Act.put _ (some 29) _ = _
   simp only [a92, Act.put, List.setIfInBounds_toArray, List.set_cons_zero, List.set_cons_succ]
   rfl
  ·
   have hn_ := hneed _ rfl
   have n1 := hn_ 1 (by decide)
   have n5 := hn_ 5 (by decide)
   have z10 := zz_ (fun h => hcl 10 _ h rfl 6 (by decide)) hbi
   have z11 := zz_ (fun h => hcl 11 _ h rfl 6 (by decide)) hbi
   have z13 := zz_ (fun h => hcl 13 _ h rfl 6 (by decide)) hbi
   simp only [hbi, n1, n5, z10, z11, z13] at hI
   obtain ⟨A1, c1, A2, c2, A30, c30, A33, c33, A34, c34, g10, rfl, h⟩ := hI
   have hgw := HGW.out
   have hh2 := HH2.out
   have h24 := H24.out
   refine wpOp_step rfl (fun K' hK' => ?_)
   simp (decide := true) only [if_true, if_false, reduceIte, n1, n5, z10, z11, z13] at hK'
   refine goes_ Try.func94 (by kernel_rfl) rfl #[.int .i64 5, (.agg #[.int .i64 13, .int .i64 3, .slice A1 0 c1]), (.agg #[.int .i64 0, .int .i64 (wrap64 (1 + t377)), .slice A2 0 c2])] (by rfl) rfl rfl (by (try simp only [List.map_toArray, List.map_cons, List.map_nil]); first | done | rfl) ?_
   refine (both_lit 5 13 3 A1 c1 0 (wrap64 (1 + t377)) A2 c2 _).mono ?_
   rintro e W' ⟨A, c, rfl, hn, hb⟩
   have hlt := h.hK.1
   have h' := h.ext hb
   refine ⟨_, rfl, hK' _ _ (⟨A1, c1, A2, c2, A, c, A33, c33, A34, c34, g10, ?_, ⟨h'.hK, h'.hI, h'.hB, fun _ => Kd.N_mono (Kd.N_lower hn hlt) (fun q hq => ⟨Nat.le_trans hlt hq, fun e => ?_⟩), h'.h33, (fun e => Bool.noConfusion e), fun e => ⟨(h'.h10 e).1, (h'.h10 e).2⟩⟩⟩)⟩
   ·show Act.put _ (some 30) _ = _
    simp only [a92, Act.put, List.setIfInBounds_toArray, List.set_cons_zero, List.set_cons_succ]
    rfl
   ·have := blk_lt (h.h10 e).2; omega
  ·
   have z10 := zz_ (fun h => hcl 10 _ h rfl 7 (by decide)) hbi
   have z11 := zz_ (fun h => hcl 11 _ h rfl 10 (by decide)) z10
   have z13 := zz_ (fun h => hcl 13 _ h rfl 7 (by decide)) hbi
   simp only [hbi, z10, z11, z13] at hI
   obtain ⟨A1, c1, A2, c2, A30, c30, A33, c33, A34, c34, g10, rfl, h⟩ := hI
   have hgw := HGW.out
   have hh2 := HH2.out
   have h24 := H24.out
   refine wpOp_step rfl (fun K' hK' => ?_)
   simp (decide := true) only [if_true, if_false, reduceIte, z10, z11, z13] at hK'
   refine event_step (W := W) (w1 := W) (v := ?_) (by rfl) ?_ ?_
   rotate_left
   ·(try simp only [a92, cond_true, cond_false])
    go_simp
    first | with_reducible rfl | rfl
   refine hK' _ _ (⟨A1, c1, A2, c2, A30, c30, A33, c33, A34, c34, g10, ?_, h⟩)
   show Act.put _ (some 31) _ = _
   simp only [a92, Act.put, List.setIfInBounds_toArray, List.set_cons_zero, List.set_cons_succ, i64_w, i32_w]
   rfl
  ·
   have z9 := zz_ (fun h => hcl 9 _ h rfl 8 (by decide)) hbi
   have z10 := zz_ (fun h => hcl 10 _ h rfl 9 (by decide)) z9
   have z11 := zz_ (fun h => hcl 11 _ h rfl 10 (by decide)) z10
   have z13 := zz_ (fun h => hcl 13 _ h rfl 8 (by decide)) hbi
   simp only [hbi, z9, z10, z11, z13] at hI
   obtain ⟨A1, c1, A2, c2, A30, c30, A33, c33, A34, c34, g10, rfl, h⟩ := hI
   have hgw := HGW.out
   have hh2 := HH2.out
   have h24 := H24.out
   refine wpOp_step rfl (fun K' hK' => ?_)
   simp (decide := true) only [if_true, if_false, reduceIte, z9, z10, z11, z13] at hK'
   have h9 := h.hK.blk B9.out NE9.out (by simp)
   have q0 : W.cell? ⟨g9, 0, none⟩ = some (.int .i64 1) := blk_cell h9 0
   have q1 : W.cell? ⟨g9, 1, none⟩ = some (.int .i64 3) := blk_cell h9 1
   have q2 : W.cell? ⟨g9, 2, none⟩ = some (.int .i64 0) := blk_cell h9 2
   have q3 : W.cell? ⟨g9, 3, none⟩ = some (.int .i64 8) := blk_cell h9 3
   have q4 : W.cell? ⟨g9, 4, none⟩ = some (.int .i64 0) := blk_cell h9 4
   have q5 : W.cell? ⟨g9, 5, none⟩ = some (.slice A22 2 c22) := blk_cell h9 5
   have q6 : W.cell? ⟨g9, 6, none⟩ = some (.slice none 0 0) := blk_cell h9 6
   have q7 : W.cell? ⟨g9, 7, none⟩ = some (.slice none 0 0) := blk_cell h9 7
   refine event_step (W := W) (w1 := W) (v := ?_) (by rfl) ?_ ?_
   rotate_left
   ·(try simp only [a92, cond_true, cond_false])
    go_simp
    first | with_reducible rfl | rfl
   refine hK' _ _ (⟨A1, c1, A2, c2, A30, c30, A33, c33, A34, c34, g10, ?_, h⟩)
   show Act.put _ (some 32) _ = _
   simp only [a92, Act.put, List.setIfInBounds_toArray, List.set_cons_zero, List.set_cons_succ, i64_w, i32_w]
   rfl
  ·
   have hn_ := hneed _ rfl
   have n8 := hn_ 8 (by decide)
   have z10 := zz_ (fun h => hcl 10 _ h rfl 9 (by decide)) hbi
   have z11 := zz_ (fun h => hcl 11 _ h rfl 10 (by decide)) z10
   have z13 := zz_ (fun h => hcl 13 _ h rfl 9 (by decide)) hbi
   simp only [hbi, n8, z10, z11, z13] at hI
   obtain ⟨A1, c1, A2, c2, A30, c30, A33, c33, A34, c34, g10, rfl, h⟩ := hI
   have hgw := HGW.out
   have hh2 := HH2.out
   have h24 := H24.out
   refine wpOp_step rfl (fun K' hK' => ?_)
   simp (decide := true) only [if_true, if_false, reduceIte, n8, z10, z11, z13] at hK'
   have hlt := h.hK.1
   have hn22 := Kd.N_keep N22.out (show KeepBut W0 W g none from h.hK) (fun q hq => by have := hq.1; omega)
   refine Kd.N_lit_step k37 W.heap.size 37 ?hg (N' := 33) ?hd (w0 := W) (xs := [(⟨1, 3, 0, ⟨8, 0, [⟨13, 3, []⟩, ⟨0, 1, []⟩]⟩, [], []⟩ : S37)]) (inner := [.int .i64 1, .int .i64 3, .int .i64 0, .int .i64 8, .int .i64 0, .slice A22 2 c22, .slice none 0 0, .slice none 0 0]) (ok := fun k => h2 ≤ k ∧ (b 12 = true → k ≠ g10)) (okp := fun k => h2 ≤ k ∧ k < W0.heap.size) ?hr ?hp ?ho ?hf (Below.refl _ _) (Nat.le_refl _) (by simp) ?_
   case hd => rfl
   case hg => rfl
   case hr => (try simp only [a92, cond_true, cond_false]); first | (go_simp; done) | (go_simp; rfl)
   case hp => exact Reps.c8 (show Kd.FK k37 _ _ ((⟨1, 3, 0, ⟨8, 0, [⟨13, 3, []⟩, ⟨0, 1, []⟩]⟩, [], []⟩ : S37) : S37) [.int .i64 1, .int .i64 3, .int .i64 0, .int .i64 8, .int .i64 0, .slice A22 2 c22, .slice none 0 0, .slice none 0 0] from k37_mkF _ _ ((⟨1, 3, 0, ⟨8, 0, [⟨13, 3, []⟩, ⟨0, 1, []⟩]⟩, [], []⟩ : S37) : S37) (Kd.N_reads' hn22).2.1 (Kd.N_F hn22) (Nat.le_refl _) (Kd.F_nil _ _ _) (Nat.le_refl _) (Kd.F_nil _ _ _)) (Reps.none _ _)
   case ho => exact fun q hq => ⟨hq.1, fun e => by have := (h.h10 e).1; omega⟩
   case hf => exact ⟨by have := H24.out; omega, fun e => by have := blk_lt (h.h10 e).2; omega⟩
   intro v1 W' hn hb _ _
   obtain ⟨A, c, rfl⟩ := Kd.N_slice hn
   have h' := h.ext hb
   refine hK' _ _ (⟨A1, c1, A2, c2, A30, c30, A, c, A34, c34, g10, ?_, ⟨h'.hK, h'.hI, h'.hB, h'.h30, fun _ => Kd.N_lower hn (by have := H24.out; omega), h'.h34, h'.h10⟩⟩)
   show Act.put _ (some 33) _ = _
   simp only [a92, Act.put, List.setIfInBounds_toArray, List.set_cons_zero, List.set_cons_succ]
   rfl
  ·
   have hn_ := hneed _ rfl
   have n6 := hn_ 6 (by decide)
   have n7 := hn_ 7 (by decide)
   have n9 := hn_ 9 (by decide)
   have z11 := zz_ (fun h => hcl 11 _ h rfl 10 (by decide)) hbi
   have z13 := zz_ (fun h => hcl 13 _ h rfl 10 (by decide)) hbi
   simp only [hbi, n6, n7, n9, z11, z13] at hI
   obtain ⟨A1, c1, A2, c2, A30, c30, A33, c33, A34, c34, g10, rfl, h⟩ := hI
   have hgw := HGW.out
   have hh2 := HH2.out
   have h24 := H24.out
   refine wpOp_step rfl (fun K' hK' => ?_)
   simp (decide := true) only [if_true, if_false, reduceIte, n6, n7, n9, z11, z13] at hK'
   have hlt := h.hK.1
   have hK0 : KeepBut W0 W g none := h.hK
   have h8 := Kd.N_keep H8.out hK0 (fun q hq => by have := hq.1; omega)
   have hn33 := h.h33 rfl
   have own8 : ∀ q, v8.ownBlock = some q → w.heap.size ≤ q ∧ q < h2 := fun q hq => H8.out.1 q hq
   refine Kd.N_append_rows_step k37 (w0 := W) w.heap.size (by rfl) (.tmp 31) (.tmp 33) 31 37 (.agg #[.int .i64 0, .int .i64 0, .int .i64 0, .int .i64 0, .int .i64 0, .slice none 0 0, .slice none 0 0, .slice none 0 0]) 112 rfl Try.underlying31 info37 rfl (by decide) (by omega) v8 t352 [(⟨1, 3, 0, ⟨8, 0, [⟨13, 3, []⟩, ⟨0, 1, []⟩]⟩, [], []⟩ : S37)] A33 1 c33 (fun k => w.heap.size ≤ k ∧ (b 12 = true → k ≠ g10)) (fun k => h2 ≤ k ∧ (b 12 = true → k ≠ g10)) rfl rfl (Kd.N_mono h8 ?aO) (Kd.N_F hn33) ?aK ?aF ?aB ?aS ?aL ?_
   case aO => exact fun q hq => ⟨hq.1, fun e => by have := (h.h10 e).1; have := hq.2; have := H24.out; omega⟩
   case aK => exact fun q hq => ⟨⟨by have := HH2.out; have := hq.1; omega, hq.2⟩, fun e => by have := (own8 q e.symm).2; have := hq.1; omega⟩
   case aF => exact fun q hq => ⟨by have := HH2.out; have := H24.out; omega, fun e => by have := blk_lt (h.h10 e).2; omega⟩
   case aB => exact Below.refl _ _
   case aS => have := HH2.out; have := H24.out; omega
   case aL => have := LM.out; omega
   intro v1 W' hn hb hg hat
   obtain ⟨A, c, rfl⟩ := Kd.N_slice hn
   have ne : ∀ q, h2 ≤ q → some q ≠ v8.ownBlock := fun q hq e => by have := (own8 q e.symm).2; omega
   have neg : some g ≠ v8.ownBlock := fun e => by have := (own8 g e.symm).1; omega
   refine hK' _ _ (⟨A1, c1, A2, c2, A30, c30, A33, c33, A, c, g10, ?_, ⟨KeepBut.trans (row := v8.ownBlock) ⟨hK0.1, fun q hq hq2 _ => hK0.2 q hq hq2 (by simp)⟩ (KeepBut.of_grown hg g) (.inl rfl), h.hI.grown hg neg, below_weaken h.hB (Nat.le_of_lt (Nat.lt_of_le_of_lt h.hI.ge hgw)) hb, fun e => Kd.N_step (h.h30 e) (fun q hq hl => hg.block q hl (ne q (by have := hq.1; omega))), fun _ => Kd.N_step hn33 (fun q hq hl => hg.block q hl (ne q hq.1)), fun _ => hn, fun e => ⟨(h.h10 e).1, blk_grown (h.h10 e).2 hg (ne _ (by have := (h.h10 e).1; have := H24.out; omega))⟩⟩⟩)
   show Act.put _ (some 34) _ = _
   simp only [a92, Act.put, List.setIfInBounds_toArray, List.set_cons_zero, List.set_cons_succ]
   rfl
  ·
   have hn_ := hneed _ rfl
   have n6 := hn_ 6 (by decide)
   have n10 := hn_ 10 (by decide)
   have z13 := zz_ (fun h => hcl 13 _ h rfl 11 (by decide)) hbi
   simp only [hbi, n6, n10, z13] at hI
   obtain ⟨A1, c1, A2, c2, A30, c30, A33, c33, A34, c34, g10, rfl, h⟩ := hI
   have hgw := HGW.out
   have hh2 := HH2.out
   have h24 := H24.out
   refine wpOp_step rfl (fun K' hK' => ?_)
   simp (decide := true) only [if_true, if_false, reduceIte, n6, n10, z13] at hK'
   refine event_step (W := W) (w1 := W) (v := .agg #[.int .i64 3, .int .i64 0, .int .i64 0, .int .i64 5, .int .i64 0, .slice A30 2 c30, .slice A34 (t352 ++ [(⟨1, 3, 0, ⟨8, 0, [⟨13, 3, []⟩, ⟨0, 1, []⟩]⟩, [], []⟩ : S37)]).length c34, .slice none 0 0]) (by rfl) ?_ ?_
   ·(try simp only [a92, cond_true, cond_false])
    go_simp
    (try rfl)
   refine hK' _ _ (⟨A1, c1, A2, c2, A30, c30, A33, c33, A34, c34, g10, ?_, h⟩)
   show Act.put _ (some 35) _ = _
   simp only [a92, Act.put, List.setIfInBounds_toArray, List.set_cons_zero, List.set_cons_succ, i64_w, i32_w]
   rfl
  ·
   have z13 := zz_ (fun h => hcl 13 _ h rfl 12 (by decide)) hbi
   simp only [hbi, z13] at hI
   obtain ⟨A1, c1, A2, c2, A30, c30, A33, c33, A34, c34, g10, rfl, h⟩ := hI
   have hgw := HGW.out
   have hh2 := HH2.out
   have h24 := H24.out
   refine wpOp_step rfl (fun K' hK' => ?_)
   simp (decide := true) only [if_true, if_false, reduceIte, z13] at hK'
   refine box_step ?hg (N := 10) ?hd (cs := #[.int .i64 0, .int .i64 0, .int .i64 0, .int .i64 0, .int .i64 0, .slice none 0 0, .slice none 0 0, .slice none 0 0]) (t := 37) ?hr ?_
   case hd => rfl
   case hg => rfl
   case hr => (try simp only [a92, cond_true, cond_false]); first | (go_simp; done) | (go_simp; rfl)
   intro gb hgb W' hbox hb
   have hlt := h.hK.1
   have h' := h.ext hb
   refine hK' _ _ (⟨A1, c1, A2, c2, A30, c30, A33, c33, A34, c34, gb, ?_, ⟨h'.hK, h'.hI, h'.hB, fun e => Kd.N_mono (Kd.N_below (Kd.N_bound (h.h30 e)) hb) (fun q hq => ⟨hq.1.1, fun _ => by have := hq.2; omega⟩), fun e => Kd.N_mono (Kd.N_below (Kd.N_bound (h.h33 e)) hb) (fun q hq => ⟨hq.1.1, fun _ => by have := hq.2; omega⟩), fun e => Kd.N_mono (Kd.N_below (Kd.N_bound (h.h34 e)) hb) (fun q hq => ⟨hq.1.1, fun _ => by have := hq.2; omega⟩), fun _ => ⟨by omega, hbox⟩⟩⟩)
   show Act.put _ (some 10) _ = _
   simp only [a92, Act.put, List.setIfInBounds_toArray, List.set_cons_zero, List.set_cons_succ]
   rfl
  ·
   have hn_ := hneed _ rfl
   have n0 := hn_ 0 (by decide)
   have n1 := hn_ 1 (by decide)
   have n2 := hn_ 2 (by decide)
   have n3 := hn_ 3 (by decide)
   have n4 := hn_ 4 (by decide)
   have n5 := hn_ 5 (by decide)
   have n6 := hn_ 6 (by decide)
   have n7 := hn_ 7 (by decide)
   have n8 := hn_ 8 (by decide)
   have n9 := hn_ 9 (by decide)
   have n10 := hn_ 10 (by decide)
   have n11 := hn_ 11 (by decide)
   have n12 := hn_ 12 (by decide)
   simp only [hbi, n0, n1, n2, n3, n4, n5, n6, n7, n8, n9, n10, n11, n12] at hI
   obtain ⟨A1, c1, A2, c2, A30, c30, A33, c33, A34, c34, g10, rfl, h⟩ := hI
   have hgw := HGW.out
   have hh2 := HH2.out
   have h24 := H24.out
   refine wpOp_step rfl (fun K' hK' => ?_)
   simp (decide := true) only [if_true, if_false, reduceIte, n0, n1, n2, n3, n4, n5, n6, n7, n8, n9, n10, n11, n12] at hK'
   obtain ⟨hg10, hbx⟩ := h.h10 rfl
   replace hbx : W.heap[g10]? = some (.cells #[.int .i64 0, .int .i64 0, .int .i64 0, .int .i64 0, .int .i64 0, .slice none 0 0, .slice none 0 0, .slice none 0 0] 37 (0, 0)) := hbx
   have hlt := h.hK.1
   have q0 : W.cell? ⟨g10, 0, none⟩ = some (.int .i64 0) := blk_cell hbx 0
   have f0 := blk_frozen hbx 0
   have q1 : W.cell? ⟨g10, 1, none⟩ = some (.int .i64 0) := blk_cell hbx 1
   have f1 := blk_frozen hbx 1
   have q2 : W.cell? ⟨g10, 2, none⟩ = some (.int .i64 0) := blk_cell hbx 2
   have f2 := blk_frozen hbx 2
   have q3 : W.cell? ⟨g10, 3, none⟩ = some (.int .i64 0) := blk_cell hbx 3
   have f3 := blk_frozen hbx 3
   have q4 : W.cell? ⟨g10, 4, none⟩ = some (.int .i64 0) := blk_cell hbx 4
   have f4 := blk_frozen hbx 4
   have q5 : W.cell? ⟨g10, 5, none⟩ = some (.slice none 0 0) := blk_cell hbx 5
   have f5 := blk_frozen hbx 5
   have q6 : W.cell? ⟨g10, 6, none⟩ = some (.slice none 0 0) := blk_cell hbx 6
   have f6 := blk_frozen hbx 6
   have q7 : W.cell? ⟨g10, 7, none⟩ = some (.slice none 0 0) := blk_cell hbx 7
   have f7 := blk_frozen hbx 7
   refine skip_ (w1 := ((((((((W.setCell ⟨g10, 0, none⟩ (.int .i64 3)).setCell ⟨g10, 1, none⟩ (.int .i64 0)).setCell ⟨g10, 2, none⟩ (.int .i64 0)).setCell ⟨g10, 3, none⟩ (.int .i64 5)).setCell ⟨g10, 4, none⟩ (.int .i64 0)).setCell ⟨g10, 5, none⟩ (.slice A30 2 c30)).setCell ⟨g10, 6, none⟩ (.slice A34 (t352 ++ [(⟨1, 3, 0, ⟨8, 0, [⟨13, 3, []⟩, ⟨0, 1, []⟩]⟩, [], []⟩ : S37)]).length c34)).setCell ⟨g10, 7, none⟩ (.slice none 0 0))) (by rfl) rfl ?_ ?_
   ·(try simp only [a92, cond_true, cond_false])
    go_simp
    (try rfl)
   have ng : g ≠ g10 := by omega
   have hb0 : w0.heap.size ≤ g10 := Nat.le_trans h.hI.ge (by omega)
   refine hK' _ _ (⟨A1, c1, A2, c2, A30, c30, A33, c33, A34, c34, g10, rfl, ⟨(keep_far (p := ⟨g10, 7, none⟩) (keep_far (p := ⟨g10, 6, none⟩) (keep_far (p := ⟨g10, 5, none⟩) (keep_far (p := ⟨g10, 4, none⟩) (keep_far (p := ⟨g10, 3, none⟩) (keep_far (p := ⟨g10, 2, none⟩) (keep_far (p := ⟨g10, 1, none⟩) (keep_far (p := ⟨g10, 0, none⟩) h.hK hg10 (.int .i64 3)) hg10 (.int .i64 0)) hg10 (.int .i64 0)) hg10 (.int .i64 5)) hg10 (.int .i64 0)) hg10 (.slice A30 2 c30)) hg10 (.slice A34 (t352 ++ [(⟨1, 3, 0, ⟨8, 0, [⟨13, 3, []⟩, ⟨0, 1, []⟩]⟩, [], []⟩ : S37)]).length c34)) hg10 (.slice none 0 0)), (IsS66.far (p := ⟨g10, 7, none⟩) (IsS66.far (p := ⟨g10, 6, none⟩) (IsS66.far (p := ⟨g10, 5, none⟩) (IsS66.far (p := ⟨g10, 4, none⟩) (IsS66.far (p := ⟨g10, 3, none⟩) (IsS66.far (p := ⟨g10, 2, none⟩) (IsS66.far (p := ⟨g10, 1, none⟩) (IsS66.far (p := ⟨g10, 0, none⟩) h.hI ng (.int .i64 3)) ng (.int .i64 0)) ng (.int .i64 0)) ng (.int .i64 5)) ng (.int .i64 0)) ng (.slice A30 2 c30)) ng (.slice A34 (t352 ++ [(⟨1, 3, 0, ⟨8, 0, [⟨13, 3, []⟩, ⟨0, 1, []⟩]⟩, [], []⟩ : S37)]).length c34)) ng (.slice none 0 0)), (below_set (j := 7) (v := (.slice none 0 0)) (below_set (j := 6) (v := (.slice A34 (t352 ++ [(⟨1, 3, 0, ⟨8, 0, [⟨13, 3, []⟩, ⟨0, 1, []⟩]⟩, [], []⟩ : S37)]).length c34)) (below_set (j := 5) (v := (.slice A30 2 c30)) (below_set (j := 4) (v := (.int .i64 0)) (below_set (j := 3) (v := (.int .i64 5)) (below_set (j := 2) (v := (.int .i64 0)) (below_set (j := 1) (v := (.int .i64 0)) (below_set (j := 0) (v := (.int .i64 3)) h.hB hb0) hb0) hb0) hb0) hb0) hb0) hb0) hb0), fun e => (Kd.N_far (p := ⟨g10, 7, none⟩) (Kd.N_far (p := ⟨g10, 6, none⟩) (Kd.N_far (p := ⟨g10, 5, none⟩) (Kd.N_far (p := ⟨g10, 4, none⟩) (Kd.N_far (p := ⟨g10, 3, none⟩) (Kd.N_far (p := ⟨g10, 2, none⟩) (Kd.N_far (p := ⟨g10, 1, none⟩) (Kd.N_far (p := ⟨g10, 0, none⟩) (h.h30 rfl) (fun q hq => hq.2 rfl) (.int .i64 3)) (fun q hq => hq.2 rfl) (.int .i64 0)) (fun q hq => hq.2 rfl) (.int .i64 0)) (fun q hq => hq.2 rfl) (.int .i64 5)) (fun q hq => hq.2 rfl) (.int .i64 0)) (fun q hq => hq.2 rfl) (.slice A30 2 c30)) (fun q hq => hq.2 rfl) (.slice A34 (t352 ++ [(⟨1, 3, 0, ⟨8, 0, [⟨13, 3, []⟩, ⟨0, 1, []⟩]⟩, [], []⟩ : S37)]).length c34)) (fun q hq => hq.2 rfl) (.slice none 0 0)), fun e => (Kd.N_far (p := ⟨g10, 7, none⟩) (Kd.N_far (p := ⟨g10, 6, none⟩) (Kd.N_far (p := ⟨g10, 5, none⟩) (Kd.N_far (p := ⟨g10, 4, none⟩) (Kd.N_far (p := ⟨g10, 3, none⟩) (Kd.N_far (p := ⟨g10, 2, none⟩) (Kd.N_far (p := ⟨g10, 1, none⟩) (Kd.N_far (p := ⟨g10, 0, none⟩) (h.h33 rfl) (fun q hq => hq.2 rfl) (.int .i64 3)) (fun q hq => hq.2 rfl) (.int .i64 0)) (fun q hq => hq.2 rfl) (.int .i64 0)) (fun q hq => hq.2 rfl) (.int .i64 5)) (fun q hq => hq.2 rfl) (.int .i64 0)) (fun q hq => hq.2 rfl) (.slice A30 2 c30)) (fun q hq => hq.2 rfl) (.slice A34 (t352 ++ [(⟨1, 3, 0, ⟨8, 0, [⟨13, 3, []⟩, ⟨0, 1, []⟩]⟩, [], []⟩ : S37)]).length c34)) (fun q hq => hq.2 rfl) (.slice none 0 0)), fun e => (Kd.N_far (p := ⟨g10, 7, none⟩) (Kd.N_far (p := ⟨g10, 6, none⟩) (Kd.N_far (p := ⟨g10, 5, none⟩) (Kd.N_far (p := ⟨g10, 4, none⟩) (Kd.N_far (p := ⟨g10, 3, none⟩) (Kd.N_far (p := ⟨g10, 2, none⟩) (Kd.N_far (p := ⟨g10, 1, none⟩) (Kd.N_far (p := ⟨g10, 0, none⟩) (h.h34 rfl) (fun q hq => hq.2 rfl) (.int .i64 3)) (fun q hq => hq.2 rfl) (.int .i64 0)) (fun q hq => hq.2 rfl) (.int .i64 0)) (fun q hq => hq.2 rfl) (.int .i64 5)) (fun q hq => hq.2 rfl) (.int .i64 0)) (fun q hq => hq.2 rfl) (.slice A30 2 c30)) (fun q hq => hq.2 rfl) (.slice A34 (t352 ++ [(⟨1, 3, 0, ⟨8, 0, [⟨13, 3, []⟩, ⟨0, 1, []⟩]⟩, [], []⟩ : S37)]).length c34)) (fun q hq => hq.2 rfl) (.slice none 0 0)), fun _ => ⟨hg10, (blk_put (cs' := #[(.int .i64 3), (.int .i64 0), (.int .i64 0), (.int .i64 5), (.int .i64 0), (.slice A30 2 c30), (.slice A34 (t352 ++ [(⟨1, 3, 0, ⟨8, 0, [⟨13, 3, []⟩, ⟨0, 1, []⟩]⟩, [], []⟩ : S37)]).length c34), (.slice none 0 0)]) (blk_put (cs' := #[(.int .i64 3), (.int .i64 0), (.int .i64 0), (.int .i64 5), (.int .i64 0), (.slice A30 2 c30), (.slice A34 (t352 ++ [(⟨1, 3, 0, ⟨8, 0, [⟨13, 3, []⟩, ⟨0, 1, []⟩]⟩, [], []⟩ : S37)]).length c34), (.slice none 0 0)]) (blk_put (cs' := #[(.int .i64 3), (.int .i64 0), (.int .i64 0), (.int .i64 5), (.int .i64 0), (.slice A30 2 c30), (.slice none 0 0), (.slice none 0 0)]) (blk_put (cs' := #[(.int .i64 3), (.int .i64 0), (.int .i64 0), (.int .i64 5), (.int .i64 0), (.slice none 0 0), (.slice none 0 0), (.slice none 0 0)]) (blk_put (cs' := #[(.int .i64 3), (.int .i64 0), (.int .i64 0), (.int .i64 5), (.int .i64 0), (.slice none 0 0), (.slice none 0 0), (.slice none 0 0)]) (blk_put (cs' := #[(.int .i64 3), (.int .i64 0), (.int .i64 0), (.int .i64 0), (.int .i64 0), (.slice none 0 0), (.slice none 0 0), (.slice none 0 0)]) (blk_put (cs' := #[(.int .i64 3), (.int .i64 0), (.int .i64 0), (.int .i64 0), (.int .i64 0), (.slice none 0 0), (.slice none 0 0), (.slice none 0 0)]) (blk_put (cs' := #[(.int .i64 3), (.int .i64 0), (.int .i64 0), (.int .i64 0), (.int .i64 0), (.slice none 0 0), (.slice none 0 0), (.slice none 0 0)]) hbx 0 (.int .i64 3) rfl) 1 (.int .i64 0) rfl) 2 (.int .i64 0) rfl) 3 (.int .i64 5) rfl) 4 (.int .i64 0) rfl) 5 (.slice A30 2 c30) rfl) 6 (.slice A34 (t352 ++ [(⟨1, 3, 0, ⟨8, 0, [⟨13, 3, []⟩, ⟨0, 1, []⟩]⟩, [], []⟩ : S37)]).length c34) rfl) 7 (.slice none 0 0) rfl)⟩⟩⟩)
 case hdone =>
  intro b a W hall hI
  replace hI : L92 w0 w W0 g g9 h2 s0_0 a1 a2 t350 t355 t377 t378 v8 t352 A20 c20 A21 c21 A22 c22 (b 0) (b 1) (b 2) (b 3) (b 4) (b 5) (b 6) (b 7) (b 8) (b 9) (b 10) (b 11) (b 12) (b 13) a W := hI
  rw [hall 0 (by decide), hall 1 (by decide), hall 2 (by decide), hall 3 (by decide), hall 4 (by decide), hall 5 (by decide), hall 6 (by decide), hall 7 (by decide), hall 8 (by decide), hall 9 (by decide), hall 10 (by decide), hall 11 (by decide), hall 12 (by decide), hall 13 (by decide)] at hI
  obtain ⟨A1, c1, A2, c2, A30, c30, A33, c33, A34, c34, g10, rfl, h⟩ := hI
  simp only [a92, cond_true]
  try go_wp2
  have own8 : ∀ q, v8.ownBlock = some q → w.heap.size ≤ q := fun q hq => (H8.out.1 q hq).1
  have hh2 := HH2.out
  have h24 := H24.out
  have HKW : Aside0 (KeepBut w W g none) := ⟨KeepBut.trans HK'.out h.hK (by cases hv : v8.ownBlock with | none => exact .inl rfl | some q => exact .inr ⟨q, rfl, own8 q hv⟩)⟩
  have HN30 := am (Kd.N_mono (h.h30 rfl) (ok' := fun q => w.heap.size ≤ q) (fun q hq => by have := hq.1; omega))
  have HN34 := am (Kd.N_mono (h.h34 rfl) (ok' := fun q => w.heap.size ≤ q) (fun q hq => hq.1))
  have h10' := am (show W.heap[g10]? = some (.cells #[.int .i64 3, .int .i64 0, .int .i64 0, .int .i64 5, .int .i64 0, .slice A30 2 c30, .slice A34 (t352 ++ [(⟨1, 3, 0, ⟨8, 0, [⟨13, 3, []⟩, ⟨0, 1, []⟩]⟩, [], []⟩ : S37)]).length c34, .slice none 0 0] 37 (0, 0)) from (h.h10 rfl).2)
  have HIW := am (show IsS66 w0 W g s0_0 t378 from h.hI)
  have HBW := am h.hB
  clear h hall own8 hh2 h24 HI' HB' HK' H24 HH2 H8
  refine start_ (n := 6) (S := fun w' => w'.cell? ⟨g10, 0, none⟩ = some (.int .i64 3) ∧ w'.cell? ⟨g10, 1, none⟩ = some (.int .i64 0) ∧ w'.cell? ⟨g10, 2, none⟩ = some (.int .i64 0) ∧ w'.cell? ⟨g10, 3, none⟩ = some (.int .i64 5) ∧ w'.cell? ⟨g10, 4, none⟩ = some (.int .i64 0) ∧ w'.cell? ⟨g10, 5, none⟩ = some (.slice A30 2 c30) ∧ w'.cell? ⟨g10, 6, none⟩ = some (.slice A34 (t352 ++ [(⟨1, 3, 0, ⟨8, 0, [⟨13, 3, []⟩, ⟨0, 1, []⟩]⟩, [], []⟩ : S37)]).length c34) ∧ w'.cell? ⟨g10, 7, none⟩ = some (.slice none 0 0)) (ds := []) #[false, false, false, false, false, false] (by kernel_rfl) rfl rfl ⟨(blk_cell h10'.out 0).trans rfl, (blk_cell h10'.out 1).trans rfl, (blk_cell h10'.out 2).trans rfl, (blk_cell h10'.out 3).trans rfl, (blk_cell h10'.out 4).trans rfl, (blk_cell h10'.out 5).trans rfl, (blk_cell h10'.out 6).trans rfl, (blk_cell h10'.out 7).trans rfl⟩ (fun hHeld => ?_)
  have n1_ := am (keep_drew HKW.out)
  have n2_ := am (Kd.N_drew HN30.out)
  have n3_ := am (Kd.N_drew HN34.out)
  have n4_ := am (blk_drew h10'.out)
  have n5_ := am (IsS66.drew HIW.out)
  have n6_ := am (below_drew1 HBW.out)
  clear HKW HN30 HN34 h10' HIW HBW
  have HKW := n1_
  have HN30 := n2_
  have HN34 := n3_
  have h10' := n4_
  have HIW := n5_
  have HBW := n6_
  clear n1_ n2_ n3_ n4_ n5_ n6_
  generalize W.drew = W1 at HKW HN30 HN34 h10' HIW HBW hHeld ⊢
  refine pure_ (i := 0) (N := some 36) (v := ?_) (a' := ?_) #[true, false, false, false, false, false] rfl rfl (by kernel_rfl) (fun _ _ _ h => h) (Or.inl ⟨by rfl, ?_⟩) ?_ ?_
  rotate_left
  ·intro w'
   go_simp
   with_reducible rfl
  rotate_left
  ·simp only [Act.put, List.setIfInBounds_toArray, List.set_cons_zero, List.set_cons_succ, i64_w, i32_w]
   rfl
  refine take_ (i := 3) (N := some 39) (v := ?_) (a' := ?_) #[true, false, false, true, false, false] rfl rfl (by kernel_rfl) (fun _ _ _ h => h) (Or.inl ⟨by rfl, ?_⟩) hHeld ?_ ?_
  rotate_left
  ·rintro w' ⟨s0, s1, s2, s3, s4, s5, s6, s7⟩
   go_simp
   with_reducible rfl
  rotate_left
  ·simp only [Act.put, List.setIfInBounds_toArray, List.set_cons_zero, List.set_cons_succ, i64_w, i32_w]
   rfl
  refine one_ (i := 1) (N := some 37) #[true, true, false, true, false, false] rfl rfl (by kernel_rfl) (by decide) (fun K hK => ?_)
  refine goes_ Try.func63 (by kernel_rfl) rfl #[.int .i64 0, .int .i64 0] (by rfl) rfl rfl (by (try simp only [List.map_toArray, List.map_cons, List.map_nil]); first | done | rfl) ?_
  refine (leaf_lit 0 0 _).mono ?_
  rintro e W2 ⟨AL, cL, rfl, hb⟩
  refine ⟨_, rfl, ?_⟩
  have n1_ := am (KeepBut.trans HKW.out (KeepBut.of_below hb g none) (.inl rfl))
  have n2_ := am (Kd.N_below HN30.out hb)
  have n3_ := am (Kd.N_below HN34.out hb)
  have n4_ := am (blk_below h10'.out hb)
  have n5_ := am (HIW.out.below hb)
  have n6_ := am (below_step HBW.out hb)
  clear HKW HN30 HN34 h10' HIW HBW
  have HKW := n1_
  have HN30 := n2_
  have HN34 := n3_
  have h10' := n4_
  have HIW := n5_
  have HBW := n6_
  clear n1_ n2_ n3_ n4_ n5_ n6_ hb
  refine hK.out _ _ ⟨(blk_cell h10'.out 0).trans rfl, (blk_cell h10'.out 1).trans rfl, (blk_cell h10'.out 2).trans rfl, (blk_cell h10'.out 3).trans rfl, (blk_cell h10'.out 4).trans rfl, (blk_cell h10'.out 5).trans rfl, (blk_cell h10'.out 6).trans rfl, (blk_cell h10'.out 7).trans rfl⟩ (fun hHeld => ?_)
  clear hK K
  refine norm_ (a' := ?_) ?_ ?_
  rotate_left
  ·show Act.put _ (some 37) _ = _
   simp only [Act.put, List.setIfInBounds_toArray, List.set_cons_zero, List.set_cons_succ, i64_w, i32_w]
   rfl
  refine pure_ (i := 2) (N := some 38) (v := ?_) (a' := ?_) #[true, true, true, true, false, false] rfl rfl (by kernel_rfl) (fun _ _ _ h => h) (Or.inl ⟨by rfl, ?_⟩) ?_ ?_
  rotate_left
  ·intro w'
   go_simp
   with_reducible rfl
  rotate_left
  ·simp only [Act.put, List.setIfInBounds_toArray, List.set_cons_zero, List.set_cons_succ, i64_w, i32_w]
   rfl
  refine one_ (i := 4) (N := some 40) #[true, true, true, true, true, false] rfl rfl (by kernel_rfl) (by decide) (fun K hK => ?_)
  have hkw := HKW.out.1
  refine Kd.N_lit_step k37 W2.heap.size 37 ?hg (N' := 40) ?hd (w0 := W2) (xs := [(⟨1, 3, 0, ⟨0, 0, []⟩, [], []⟩ : S37), (⟨3, 0, 0, ⟨5, 0, [⟨13, 3, []⟩, ⟨0, wrap64 (1 + t377), []⟩]⟩, t352 ++ [⟨1, 3, 0, ⟨8, 0, [⟨13, 3, []⟩, ⟨0, 1, []⟩]⟩, [], []⟩], []⟩ : S37)]) (inner := [.int .i64 1, .int .i64 3, .int .i64 0, .int .i64 0, .int .i64 0, .slice AL 0 cL, .slice none 0 0, .slice none 0 0, .int .i64 3, .int .i64 0, .int .i64 0, .int .i64 5, .int .i64 0, .slice A30 2 c30, .slice A34 (t352 ++ [(⟨1, 3, 0, ⟨8, 0, [⟨13, 3, []⟩, ⟨0, 1, []⟩]⟩, [], []⟩ : S37)]).length c34, .slice none 0 0]) (ok := fun q => w.heap.size ≤ q) (okp := fun q => w.heap.size ≤ q) ?hr ?hp (fun _ hq => hq) ?hf (Below.refl _ _) (Nat.le_refl _) (by simp) ?_
  case hd => rfl
  case hg => rfl
  case hr => first | (go_simp; done) | (go_simp; rfl)
  case hf => exact hkw
  case hp => exact Reps.c8 (show Kd.FK k37 _ _ (⟨1, 3, 0, ⟨0, 0, []⟩, [], []⟩ : S37) [.int .i64 1, .int .i64 3, .int .i64 0, .int .i64 0, .int .i64 0, .slice AL 0 cL, .slice none 0 0, .slice none 0 0] from k37_mkF _ _ (⟨1, 3, 0, ⟨0, 0, []⟩, [], []⟩ : S37) (Nat.zero_le _) (empty_F k34 _ _ AL) (Nat.le_refl _) (Kd.F_nil _ _ _) (Nat.le_refl _) (Kd.F_nil _ _ _)) (Reps.c8 (show Kd.FK k37 _ _ (⟨3, 0, 0, ⟨5, 0, [⟨13, 3, []⟩, ⟨0, wrap64 (1 + t377), []⟩]⟩, t352 ++ [⟨1, 3, 0, ⟨8, 0, [⟨13, 3, []⟩, ⟨0, 1, []⟩]⟩, [], []⟩], []⟩ : S37) [.int .i64 3, .int .i64 0, .int .i64 0, .int .i64 5, .int .i64 0, .slice A30 2 c30, .slice A34 (t352 ++ [(⟨1, 3, 0, ⟨8, 0, [⟨13, 3, []⟩, ⟨0, 1, []⟩]⟩, [], []⟩ : S37)]).length c34, .slice none 0 0] from k37_mkF _ _ (⟨3, 0, 0, ⟨5, 0, [⟨13, 3, []⟩, ⟨0, wrap64 (1 + t377), []⟩]⟩, t352 ++ [⟨1, 3, 0, ⟨8, 0, [⟨13, 3, []⟩, ⟨0, 1, []⟩]⟩, [], []⟩], []⟩ : S37) (Kd.N_reads' HN30.out).2.1 (Kd.N_F HN30.out) (Kd.N_reads' HN34.out).2.1 (Kd.N_F HN34.out) (Nat.le_refl _) (Kd.F_nil _ _ _)) (Reps.none _ _))
  intro v1 W3 hn hb _ _
  have n1_ := am (KeepBut.trans HKW.out (KeepBut.of_below hb g none) (.inl rfl))
  have n4_ := am (blk_below h10'.out hb)
  have n5_ := am (HIW.out.below hb)
  have n6_ := am (below_step HBW.out hb)
  have n7_ := am (Kd.N_lower hn hkw)
  clear HKW HN30 HN34 h10' HIW HBW hb hn
  have h10' := n4_
  refine hK.out _ _ ⟨(blk_cell h10'.out 0).trans rfl, (blk_cell h10'.out 1).trans rfl, (blk_cell h10'.out 2).trans rfl, (blk_cell h10'.out 3).trans rfl, (blk_cell h10'.out 4).trans rfl, (blk_cell h10'.out 5).trans rfl, (blk_cell h10'.out 6).trans rfl, (blk_cell h10'.out 7).trans rfl⟩ (fun hHeld => ?_)
  clear hK K
  refine norm_ (a' := ?_) ?_ ?_
  rotate_left
  ·show Act.put _ (some 40) _ = _
   simp only [Act.put, List.setIfInBounds_toArray, List.set_cons_zero, List.set_cons_succ, i64_w, i32_w]
   rfl
  refine pure_ (i := 5) (N := some 6) (v := ?_) (a' := ?_) #[true, true, true, true, true, true] rfl rfl (by kernel_rfl) (fun _ _ _ h => h) (Or.inl ⟨by rfl, ?_⟩) ?_ ?_
  rotate_left
  ·intro w'
   go_simp
   with_reducible rfl
  rotate_left
  ·simp only [Act.put, List.setIfInBounds_toArray, List.set_cons_zero, List.set_cons_succ, i64_w, i32_w]
   rfl
  refine done_ (by kernel_rfl) ?_
  try go_wp2
  go_ret
  exact ⟨_, rfl, HR.out ▸ n7_.out, n5_.out, n6_.out, n1_.out⟩
theorem impl_roomsValid.mono_l : ∀ k, (∀ y0 y1 y2 y3, LeO (impl_roomsValid.l0 k y0 y1 y2 y3) (impl_roomsValid.l0 (k + 1) y0 y1 y2 y3))
 | 0 => fun _ _ _ _ r h => by simp [impl_roomsValid.l0] at h
 | k + 1 => by
  have ih0 := impl_roomsValid.mono_l k
  ·intro y0 y1 y2 y3
   unfold impl_roomsValid.l0
   repeat' first
   | (with_reducible exact ih0 _ _ _ _)
   | (with_reducible exact LeO.refl _)
   | (with_reducible exact LeO.none _)
   | (with_reducible refine LeO.ite ?_ ?_)
   | (with_reducible refine LeO.bind ?_ (fun _ => ?_))
theorem impl_roomsValid.mono : ∀ a0 k, LeO (impl_roomsValid.f k a0) (impl_roomsValid.f (k + 1) a0) := by
 intro a0 k
 have ih0 := impl_roomsValid.mono_l k
 unfold impl_roomsValid.f
 repeat' first
   | (with_reducible exact ih0 _ _ _ _)
   | (with_reducible exact LeO.refl _)
   | (with_reducible exact LeO.none _)
   | (with_reducible refine LeO.ite ?_ ?_)
   | (with_reducible refine LeO.bind ?_ (fun _ => ?_))
theorem impl_roomsValid.calls (k : Nat) (A0 : Option Addr) (c0 : Nat) (l0 : List Int) (r : Bool) (w : World) (hr0 : Kd.C (Kd.int .i64) w A0 l0.length l0) (hc0 : l0.length ≤ c0) (h : impl_roomsValid.f k l0 = some r) :
  Calls Try.prog 31 #[.slice A0 l0.length c0] w fun e w' => e = .returned (.bool r) ∧ Drawn0 w w' := by
 have HR0 := am hr0
 have HC0 := am hc0
 clear hr0 hc0
 have H : (impl_roomsValid.l0 k l0 l0 (l0.length : Int) 0) = some r := h
 clear h
 have H' := am H
 clear H
 go_enter Try.func31, Try.ntmps31
 go_wp2
 go_loopg [7] k (fun kq v7 w' => ∃ (x7_1 : Int), v7 = .int .i64 x7_1 ∧ Aside0 (impl_roomsValid.l0 kq l0 l0 (l0.length : Int) x7_1 = some r) ∧ Aside0 (kq ≤ k) ∧ Drawn0 w w')
 case atStart => exact ⟨(0), (by first | rfl | (simp; done) | (simp [*]; done)), H', ⟨Nat.le_refl _⟩, ab29_⟩
 case round =>
  clear H'
  obtain ⟨x7_1, rfl, HA, HK1, ⟨m1, rfl⟩⟩ := hrel
  cases gk with
  | zero => exact absurd HA.out (by simp [impl_roomsValid.l0])
  | succ k1 =>
   have H := HA.out
   clear HA
   simp only [impl_roomsValid.l0] at H
   by_cases c2 : x7_1 < (l0.length : Int)
   ·rw [if_pos c2] at H
    have c2b0 : decide (x7_1 < (l0.length : Int)) = true := decide_eq_true c2
    clear c2
    by_cases c3 : 0 ≤ x7_1
    ·rw [if_pos c3] at H
     have c3b0 : decide (0 ≤ x7_1) = true := decide_eq_true c3
     clear c3
     by_cases c4 : x7_1 < (l0.length : Int)
     ·rw [if_pos c4] at H
      have c4b0 : decide (x7_1 < (l0.length : Int)) = true := decide_eq_true c4
      clear c4
      by_cases c5 : (rd l0 x7_1) < 1
      ·rw [if_pos c5] at H
       have c5b0 : decide ((rd l0 x7_1) < 1) = true := decide_eq_true c5
       clear c5
       obtain rfl := Option.some.inj H
       have p537 : 0 ≤ (x7_1 : Int) := of_decide_eq_true (by first | (with_reducible assumption) | assumption)
       have q537 : x7_1 < (l0.length : Int) := of_decide_eq_true (by first | (with_reducible assumption) | assumption)
       obtain ⟨ad537, e537, hx537_0⟩ := Kd.at_int HR0.out x7_1 p537 q537
       cases e537
       replace p537 := eq_true p537
       replace q537 := eq_true q537
       go_wp2
       go_ret
       exact ⟨by first | rfl | (simp; done) | (simp [*]; done), ab29_⟩
      rw [if_neg c5] at H
      have c5b0 : decide ((rd l0 x7_1) < 1) = false := decide_eq_false c5
      clear c5
      by_cases c6 : (rd l0 x7_1) > 4
      ·rw [if_pos c6] at H
       have c6b0 : decide (4 < (rd l0 x7_1)) = true := decide_eq_true c6
       clear c6
       obtain rfl := Option.some.inj H
       have p537 : 0 ≤ (x7_1 : Int) := of_decide_eq_true (by first | (with_reducible assumption) | assumption)
       have q537 : x7_1 < (l0.length : Int) := of_decide_eq_true (by first | (with_reducible assumption) | assumption)
       obtain ⟨ad537, e537, hx537_0⟩ := Kd.at_int HR0.out x7_1 p537 q537
       cases e537
       replace p537 := eq_true p537
       replace q537 := eq_true q537
       go_wp2
       go_ret
       exact ⟨by first | rfl | (simp; done) | (simp [*]; done), ab29_⟩
      rw [if_neg c6] at H
      have c6b0 : decide (4 < (rd l0 x7_1)) = false := decide_eq_false c6
      clear c6
      have H' := am H
      clear H
      have p537 : 0 ≤ (x7_1 : Int) := of_decide_eq_true (by first | (with_reducible assumption) | assumption)
      have q537 : x7_1 < (l0.length : Int) := of_decide_eq_true (by first | (with_reducible assumption) | assumption)
      obtain ⟨ad537, e537, hx537_0⟩ := Kd.at_int HR0.out x7_1 p537 q537
      cases e537
      replace p537 := eq_true p537
      replace q537 := eq_true q537
      go_wp2
      go_roundg k1
      case measure => have := HK1.out; omega
      case rel => exact ⟨(wrap64 (x7_1 + 1)), (by first | rfl | (simp; done) | (simp [*]; done)), H', ⟨by have := HK1.out; omega⟩, ab29_⟩
     rw [if_neg c4] at H
     exact absurd H (by simp)
    rw [if_neg c3] at H
    exact absurd H (by simp)
   rw [if_neg c2] at H
   have c2b0 : decide (x7_1 < (l0.length : Int)) = false := decide_eq_false c2
   clear c2
   obtain rfl := Option.some.inj H
   go_wp2
   go_ret
   exact ⟨by first | rfl | (simp; done) | (simp [*]; done), ab29_⟩
theorem impl_OpValid.calls (a0 : Int) (r : Bool) (w : World) (h : impl_OpValid.f a0 = some r) :
  Calls Try.prog 92 #[.int .i64 a0] w fun e w' => e = .returned (.bool r) ∧ Drawn0 w w' := by
 have H : (if a0 ≥ 1 then (some (decide (a0 ≤ 12))) else (some false)) = some r := h
 clear h
 by_cases c2 : a0 ≥ 1
 ·rw [if_pos c2] at H
  have c2b0 : decide (1 ≤ a0) = true := decide_eq_true c2
  clear c2
  obtain rfl := Option.some.inj H
  go_enter Try.func92, Try.ntmps92
  go_wp2
  go_ret
  exact ⟨by first | rfl | (simp; done) | (simp [*]; done), ab29_⟩
 rw [if_neg c2] at H
 have c2b0 : decide (1 ≤ a0) = false := decide_eq_false c2
 clear c2
 obtain rfl := Option.some.inj H
 go_enter Try.func92, Try.ntmps92
 go_wp2
 go_ret
 exact ⟨by first | rfl | (simp; done) | (simp [*]; done), ab29_⟩
theorem impl_exprValid.mono_l : ∀ k, (∀ y0 y1 y2 y3, LeO (impl_exprValid.f k y0 y1 y2 y3) (impl_exprValid.f (k + 1) y0 y1 y2 y3))
 | 0 => fun _ _ _ _ r h => by simp [impl_exprValid.f] at h
 | k + 1 => by
  have ih0 := impl_exprValid.mono_l k
  ·intro y0 y1 y2 y3
   unfold impl_exprValid.f
   repeat' first
   | (with_reducible exact ih0 _ _ _ _)
   | (with_reducible exact LeO.refl _)
   | (with_reducible exact LeO.none _)
   | (with_reducible refine LeO.ite ?_ ?_)
   | (with_reducible refine LeO.bind ?_ (fun _ => ?_))
theorem impl_exprValid.mono : ∀ a0 a1 a2 a3 k, LeO (impl_exprValid.f k a0 a1 a2 a3) (impl_exprValid.f (k + 1) a0 a1 a2 a3) := by
 intro a0 a1 a2 a3 k
 have ih0 := impl_exprValid.mono_l k
 exact ih0 a0 a1 a2 a3
theorem impl_exprValid.calls (k : Nat) : ∀ (a0_0 : Int) (a0_1 : Int) (A0_2 : Option Addr) (c0_2 : Nat) (l0_2 : List (S34)) (a1 : Int) (r : Bool) (w : World) (hr0_2 : Kd.C k34 w A0_2 l0_2.length l0_2) (hc0_2 : l0_2.length ≤ c0_2) (h : impl_exprValid.f k a0_0 a0_1 l0_2 a1 = some r),
  Calls Try.prog 81 #[.agg #[.int .i64 a0_0, .int .i64 a0_1, .slice A0_2 l0_2.length c0_2], .int .i64 a1] w fun e w' => e = .returned (.bool r) ∧ Below w.heap.size w w' := by
 induction k using Nat.strongRecOn with
 | _ k ih =>
 intro a0_0 a0_1 A0_2 c0_2 l0_2 a1 r w hr0_2 hc0_2 h
 cases k with
 | zero => exact absurd h (by simp [impl_exprValid.f])
 | succ k =>
 simp only [impl_exprValid.f] at h
 have hu34 := Try.underlying34
 have HR0_2 := am hr0_2
 have HC0_2 := am hc0_2
 clear hr0_2 hc0_2
 have HB := am (Below.refl w.heap.size w)
 have H : (if a0_0 = 0 then (if a0_1 ≥ 0 then (if a0_1 ≤ 99999 then (if (l0_2.length : Int) = 0 then (some (decide (a1 > 0))) else (some false)) else (some false)) else (some false)) else (if a0_0 = 13 then (if a0_1 ≥ 0 then (if a0_1 < 4 then (if (l0_2.length : Int) = 0 then (some (decide (a1 > 0))) else (some false)) else (some false)) else (some false)) else ((impl_OpValid.f a0_0).bind fun t539 => (if t539 = true then (if a0_1 = 0 then (if (l0_2.length : Int) = 2 then (if a1 > 1 then (if 0 < (l0_2.length : Int) then ((impl_exprValid.f k ((rd_T34 l0_2 0).f0) ((rd_T34 l0_2 0).f1) ((rd_T34 l0_2 0).f2) (wrap64 (a1 - 1))).bind fun t541 => (if t541 = true then (if 1 < (l0_2.length : Int) then ((impl_exprValid.f k ((rd_T34 l0_2 1).f0) ((rd_T34 l0_2 1).f1) ((rd_T34 l0_2 1).f2) (wrap64 (a1 - 1))).bind fun t543 => (some t543)) else (none)) else (some false))) else (none)) else (some false)) else (some false)) else (some false)) else (some false))))) = some r := h
 clear h
 have HH_ := am H
 clear H
 go_enter Try.func81, Try.ntmps81
 go_upto_region 1 with (first | ((with_reducible refine gate_dst (N := 2) rfl ?_); (try (refine gate_guard (by rfl) ?_; dsimp only)); refine box_event ?hg (N := 2) ?hd (cs := #[.int .i64 a0_0, .int .i64 a0_1, .slice A0_2 l0_2.length c0_2]) (t := 34) ?hr ?_; (case hd => rfl); (case hg => rfl); (case hr => first | (go_simp; done) | (go_simp; rfl)); intro gb538 hg w7 hbox hb; have n0_ := am (below_step ab2_ hb); have n1_ := am (hbox); have n2_ := am ((by rw [hg]; exact (below_size ab2_) : w.heap.size ≤ gb538)); have n3_ := am ((by rw [hg]; exact (below_size ab2_) : w.heap.size ≤ gb538)); clear HB; have HB := n0_; have BK538 := n1_; have GW538 := n2_; have GE538 := n3_; clear n0_ n1_ n2_ n3_ hb hbox hg; obtain ⟨hcz8_0, hcz8_1, hcz8_2, hfz8_0, hfz8_1, hfz8_2⟩ := bcf3_ BK538.out))
 have H := HH_.out
 clear HH_
 by_cases c3 : a0_0 = 0
 ·rw [if_pos c3] at H
  have c3b0 : (a0_0 == 0) = true := beq_iff_eq.mpr c3
  have c3b1 : (a0_0 != 0) = false := bne_eq_false_iff_eq.mpr c3
  clear c3
  by_cases c4 : a0_1 ≥ 0
  ·rw [if_pos c4] at H
   have c4b0 : decide (0 ≤ a0_1) = true := decide_eq_true c4
   clear c4
   by_cases c5 : a0_1 ≤ 99999
   ·rw [if_pos c5] at H
    have c5b0 : decide (a0_1 ≤ 99999) = true := decide_eq_true c5
    clear c5
    by_cases c6 : (l0_2.length : Int) = 0
    ·rw [if_pos c6] at H
     have c6b0 : ((l0_2.length : Int) == 0) = true := beq_iff_eq.mpr c6
     have c6b1 : ((l0_2.length : Int) != 0) = false := bne_eq_false_iff_eq.mpr c6
     clear c6
     obtain rfl := Option.some.inj H
     go_wp2
     go_ret
     exact ⟨rr_, ab19_⟩
    rw [if_neg c6] at H
    have c6b0 : ((l0_2.length : Int) == 0) = false := beq_eq_false_iff_ne.mpr c6
    have c6b1 : ((l0_2.length : Int) != 0) = true := bne_iff_ne.mpr c6
    have c6b2 : ¬ (l0_2 = []) := fun h_ => c6 (by rw [h_]; rfl)
    obtain rfl := Option.some.inj H
    go_wp2
    go_ret
    exact ⟨rr_, ab19_⟩
   rw [if_neg c5] at H
   have c5b0 : decide (a0_1 ≤ 99999) = false := decide_eq_false c5
   clear c5
   obtain rfl := Option.some.inj H
   go_wp2
   go_ret
   exact ⟨rr_, ab19_⟩
  rw [if_neg c4] at H
  have c4b0 : decide (0 ≤ a0_1) = false := decide_eq_false c4
  clear c4
  obtain rfl := Option.some.inj H
  go_wp2
  go_ret
  exact ⟨rr_, ab19_⟩
 rw [if_neg c3] at H
 have c3b0 : (a0_0 == 0) = false := beq_eq_false_iff_ne.mpr c3
 have c3b1 : (a0_0 != 0) = true := bne_iff_ne.mpr c3
 by_cases c15 : a0_0 = 13
 ·rw [if_pos c15] at H
  have c15b0 : (a0_0 == 13) = true := beq_iff_eq.mpr c15
  have c15b1 : (a0_0 != 13) = false := bne_eq_false_iff_eq.mpr c15
  clear c15
  by_cases c16 : a0_1 ≥ 0
  ·rw [if_pos c16] at H
   have c16b0 : decide (0 ≤ a0_1) = true := decide_eq_true c16
   clear c16
   by_cases c17 : a0_1 < 4
   ·rw [if_pos c17] at H
    have c17b0 : decide (a0_1 < 4) = true := decide_eq_true c17
    clear c17
    by_cases c18 : (l0_2.length : Int) = 0
    ·rw [if_pos c18] at H
     have c18b0 : ((l0_2.length : Int) == 0) = true := beq_iff_eq.mpr c18
     have c18b1 : ((l0_2.length : Int) != 0) = false := bne_eq_false_iff_eq.mpr c18
     clear c18
     obtain rfl := Option.some.inj H
     go_wp2
     go_ret
     exact ⟨rr_, ab19_⟩
    rw [if_neg c18] at H
    have c18b0 : ((l0_2.length : Int) == 0) = false := beq_eq_false_iff_ne.mpr c18
    have c18b1 : ((l0_2.length : Int) != 0) = true := bne_iff_ne.mpr c18
    have c18b2 : ¬ (l0_2 = []) := fun h_ => c18 (by rw [h_]; rfl)
    obtain rfl := Option.some.inj H
    go_wp2
    go_ret
    exact ⟨rr_, ab19_⟩
   rw [if_neg c17] at H
   have c17b0 : decide (a0_1 < 4) = false := decide_eq_false c17
   clear c17
   obtain rfl := Option.some.inj H
   go_wp2
   go_ret
   exact ⟨rr_, ab19_⟩
  rw [if_neg c16] at H
  have c16b0 : decide (0 ≤ a0_1) = false := decide_eq_false c16
  clear c16
  obtain rfl := Option.some.inj H
  go_wp2
  go_ret
  exact ⟨rr_, ab19_⟩
 rw [if_neg c15] at H
 have c15b0 : (a0_0 == 13) = false := beq_eq_false_iff_ne.mpr c15
 have c15b1 : (a0_0 != 13) = true := bne_iff_ne.mpr c15
 obtain ⟨t539, A270, H⟩ := bsm H
 (try dsimp only at H)
 have A27 := am A270
 clear A270
 by_cases c28 : t539 = true
 ·subst c28
  rw [if_pos rfl] at H
  by_cases c29 : a0_1 = 0
  ·rw [if_pos c29] at H
   have c29b0 : (a0_1 == 0) = true := beq_iff_eq.mpr c29
   have c29b1 : (a0_1 != 0) = false := bne_eq_false_iff_eq.mpr c29
   clear c29
   by_cases c30 : (l0_2.length : Int) = 2
   ·rw [if_pos c30] at H
    have c30b0 : ((l0_2.length : Int) == 2) = true := beq_iff_eq.mpr c30
    have c30b1 : ((l0_2.length : Int) != 2) = false := bne_eq_false_iff_eq.mpr c30
    clear c30
    by_cases c31 : a1 > 1
    ·rw [if_pos c31] at H
     have c31b0 : decide (1 < a1) = true := decide_eq_true c31
     clear c31
     by_cases c32 : 0 < (l0_2.length : Int)
     ·rw [if_pos c32] at H
      have c32b0 : decide (0 < (l0_2.length : Int)) = true := decide_eq_true c32
      have c32b1 : decide (0 < l0_2.length) = true := decide_eq_true (by omega)
      clear c32
      obtain ⟨t541, A330, H⟩ := bsm H
      (try dsimp only at H)
      have A33 := am A330
      clear A330
      by_cases c34 : t541 = true
      ·subst c34
       rw [if_pos rfl] at H
       by_cases c35 : 1 < (l0_2.length : Int)
       ·rw [if_pos c35] at H
        have c35b0 : decide (1 < (l0_2.length : Int)) = true := decide_eq_true c35
        have c35b1 : decide (1 < l0_2.length) = true := decide_eq_true (by omega)
        clear c35
        obtain ⟨t543, A360, H⟩ := bsm H
        (try dsimp only at H)
        have A36 := am A360
        clear A360
        obtain rfl := Option.some.inj H
        go_wp2_with (first | ((with_reducible refine gate_callee (f := 92) rfl ?_); refine goesL_ (some 51) rfl rfl Try.func92 (by kernel_rfl) rfl #[.int .i64 a0_0] rfl ab1_ ?_; (with_reducible refine (impl_OpValid.calls a0_0 true _ A27.out).mono ?_); rintro e w' ⟨rfl, ⟨nd, rfl⟩⟩; refine ⟨_, rfl, ?_⟩; have p540 : 0 ≤ (0 : Int) := (by omega); have q540 : 0 < (l0_2.length : Int) := of_decide_eq_true (by first | (with_reducible assumption) | assumption); obtain ⟨ad540, A540_2, c540_2, e540, hx540_0, hx540_1, hx540_2, hl540_2, hi540_2⟩ := at_T34 HR0_2.out 0 p540 q540; cases e540; have qi540 : (0 < l0_2.length) = True := eq_true (by omega); (try rw [show ((0 : Int)).toNat = 0 from rfl] at hx540_0); (try rw [show 0 * 3 = 0 from rfl] at hx540_0); (try rw [Addr.add_zero'] at hx540_0); (try rw [show ((0 : Int)).toNat = 0 from rfl] at hx540_1); (try rw [show 0 * 3 = 0 from rfl] at hx540_1); (try rw [Addr.add_zero'] at hx540_1); (try rw [show ((0 : Int)).toNat = 0 from rfl] at hx540_2); (try rw [show 0 * 3 = 0 from rfl] at hx540_2); (try rw [Addr.add_zero'] at hx540_2); replace hx540_0 := (HB.out.cell (World.block_lt_of_cell? w _ hx540_0)).trans hx540_0; replace hx540_1 := (HB.out.cell (World.block_lt_of_cell? w _ hx540_1)).trans hx540_1; replace hx540_2 := (HB.out.cell (World.block_lt_of_cell? w _ hx540_2)).trans hx540_2; have HR540_2 := am hi540_2; have HC540_2 := am hl540_2; clear hi540_2 hl540_2; replace p540 := eq_true p540; replace q540 := eq_true q540) | (go_at_call 81; (with_reducible refine (ih k (by omega) ((rd_T34 l0_2 0).f0) ((rd_T34 l0_2 0).f1) _ _ ((rd_T34 l0_2 0).f2) (wrap64 (a1 - 1)) true _ ?side1 ?side2 A33.out).mono ?_); (case side1 => repeat (first | exact (Kd.C_below HR540_2.out ab19_) | (with_reducible refine Kd.C_alloc ?_ _) | (with_reducible refine Kd.C_drewN ?_ _) | (with_reducible refine Kd.C_drew ?_))); (case side2 => exact HC540_2.out); rintro e w39 ⟨rfl, hb⟩; have n0_ := am (blk_below (g := gb538) (o := .cells #[.int .i64 a0_0, .int .i64 a0_1, .slice (some ad540) l0_2.length c0_2] 34 (0, 0)) (aG_ BK538.out) hb); have n1_ := am (below_step ab19_ hb); clear BK538 HB; have BK538 := n0_; have HB := n1_; clear n0_ n1_; (try clear hb); (try clear hb2); (try clear hk); (try clear hi); obtain ⟨hcz40_0, hcz40_1, hcz40_2, hfz40_0, hfz40_1, hfz40_2⟩ := bcf3_ BK538.out; have p542 : 0 ≤ (1 : Int) := (by omega); have q542 : 1 < (l0_2.length : Int) := of_decide_eq_true (by first | (with_reducible assumption) | assumption); obtain ⟨ad542, A542_2, c542_2, e542, hx542_0, hx542_1, hx542_2, hl542_2, hi542_2⟩ := at_T34 HR0_2.out 1 p542 q542; obtain rfl : ad540 = ad542 := (by injection e542); (try simp only [show (1 : Int).toNat = 1 from rfl, Nat.reduceMul, Nat.reduceEqDiff, Go.Addr.add, ↓reduceIte] at hx542_0); (try simp only [show (1 : Int).toNat = 1 from rfl, Nat.reduceMul, Nat.reduceEqDiff, Go.Addr.add, ↓reduceIte] at hx542_1); (try simp only [show (1 : Int).toNat = 1 from rfl, Nat.reduceMul, Nat.reduceEqDiff, Go.Addr.add, ↓reduceIte] at hx542_2); have qi542 : (1 < l0_2.length) = True := eq_true (by omega); (try rw [show ((1 : Int)).toNat = 1 from rfl] at hx542_0); (try rw [show 1 * 3 = 3 from rfl] at hx542_0); (try rw [show ((1 : Int)).toNat = 1 from rfl] at hx542_1); (try rw [show 1 * 3 = 3 from rfl] at hx542_1); (try rw [show ((1 : Int)).toNat = 1 from rfl] at hx542_2); (try rw [show 1 * 3 = 3 from rfl] at hx542_2); replace hx542_0 := (HB.out.cell (World.block_lt_of_cell? w _ hx542_0)).trans hx542_0; replace hx542_1 := (HB.out.cell (World.block_lt_of_cell? w _ hx542_1)).trans hx542_1; replace hx542_2 := (HB.out.cell (World.block_lt_of_cell? w _ hx542_2)).trans hx542_2; have HR542_2 := am hi542_2; have HC542_2 := am hl542_2; clear hi542_2 hl542_2; replace p542 := eq_true p542; replace q542 := eq_true q542) | (go_at_call 81; (with_reducible refine (ih k (by omega) ((rd_T34 l0_2 1).f0) ((rd_T34 l0_2 1).f1) _ _ ((rd_T34 l0_2 1).f2) (wrap64 (a1 - 1)) t543 _ ?side1 ?side2 A36.out).mono ?_); (case side1 => repeat (first | exact (Kd.C_below HR542_2.out HB.out) | (with_reducible refine Kd.C_alloc ?_ _) | (with_reducible refine Kd.C_drewN ?_ _) | (with_reducible refine Kd.C_drew ?_))); (case side2 => exact HC542_2.out); rintro e w41 ⟨rfl, hb⟩; have n0_ := am (blk_below (g := gb538) (o := .cells #[.int .i64 a0_0, .int .i64 a0_1, .slice (some ad540) l0_2.length c0_2] 34 (0, 0)) (aG_ BK538.out) hb); have n1_ := am (below_step ab19_ hb); clear BK538 HB; have BK538 := n0_; have HB := n1_; clear n0_ n1_; (try clear hb); (try clear hb2); (try clear hk); (try clear hi)))
        go_ret
        exact ⟨rr_, ab19_⟩
       rw [if_neg c35] at H
       exact absurd H (by simp)
      replace c34 := Bool.eq_false_iff.mpr c34
      subst c34
      rw [if_neg (show ¬ (false = true) by decide)] at H
      obtain rfl := Option.some.inj H
      go_wp2_with (first | ((with_reducible refine gate_callee (f := 92) rfl ?_); refine goesL_ (some 51) rfl rfl Try.func92 (by kernel_rfl) rfl #[.int .i64 a0_0] rfl ab1_ ?_; (with_reducible refine (impl_OpValid.calls a0_0 true _ A27.out).mono ?_); rintro e w' ⟨rfl, ⟨nd, rfl⟩⟩; refine ⟨_, rfl, ?_⟩; have p540 : 0 ≤ (0 : Int) := (by omega); have q540 : 0 < (l0_2.length : Int) := of_decide_eq_true (by first | (with_reducible assumption) | assumption); obtain ⟨ad540, A540_2, c540_2, e540, hx540_0, hx540_1, hx540_2, hl540_2, hi540_2⟩ := at_T34 HR0_2.out 0 p540 q540; cases e540; have qi540 : (0 < l0_2.length) = True := eq_true (by omega); (try rw [show ((0 : Int)).toNat = 0 from rfl] at hx540_0); (try rw [show 0 * 3 = 0 from rfl] at hx540_0); (try rw [Addr.add_zero'] at hx540_0); (try rw [show ((0 : Int)).toNat = 0 from rfl] at hx540_1); (try rw [show 0 * 3 = 0 from rfl] at hx540_1); (try rw [Addr.add_zero'] at hx540_1); (try rw [show ((0 : Int)).toNat = 0 from rfl] at hx540_2); (try rw [show 0 * 3 = 0 from rfl] at hx540_2); (try rw [Addr.add_zero'] at hx540_2); replace hx540_0 := (HB.out.cell (World.block_lt_of_cell? w _ hx540_0)).trans hx540_0; replace hx540_1 := (HB.out.cell (World.block_lt_of_cell? w _ hx540_1)).trans hx540_1; replace hx540_2 := (HB.out.cell (World.block_lt_of_cell? w _ hx540_2)).trans hx540_2; have HR540_2 := am hi540_2; have HC540_2 := am hl540_2; clear hi540_2 hl540_2; replace p540 := eq_true p540; replace q540 := eq_true q540) | (go_at_call 81; (with_reducible refine (ih k (by omega) ((rd_T34 l0_2 0).f0) ((rd_T34 l0_2 0).f1) _ _ ((rd_T34 l0_2 0).f2) (wrap64 (a1 - 1)) false _ ?side1 ?side2 A33.out).mono ?_); (case side1 => repeat (first | exact (Kd.C_below HR540_2.out ab19_) | (with_reducible refine Kd.C_alloc ?_ _) | (with_reducible refine Kd.C_drewN ?_ _) | (with_reducible refine Kd.C_drew ?_))); (case side2 => exact HC540_2.out); rintro e w44 ⟨rfl, hb⟩; have n0_ := am (blk_below (g := gb538) (o := .cells #[.int .i64 a0_0, .int .i64 a0_1, .slice (some ad540) l0_2.length c0_2] 34 (0, 0)) (aG_ BK538.out) hb); have n1_ := am (below_step ab19_ hb); clear BK538 HB; have BK538 := n0_; have HB := n1_; clear n0_ n1_; (try clear hb); (try clear hb2); (try clear hk); (try clear hi)))
      go_ret
      exact ⟨rr_, ab19_⟩
     rw [if_neg c32] at H
     exact absurd H (by simp)
    rw [if_neg c31] at H
    have c31b0 : decide (1 < a1) = false := decide_eq_false c31
    clear c31
    obtain rfl := Option.some.inj H
    go_wp2_with (first | ((with_reducible refine gate_callee (f := 92) rfl ?_); refine goesL_ (some 51) rfl rfl Try.func92 (by kernel_rfl) rfl #[.int .i64 a0_0] rfl ab1_ ?_; (with_reducible refine (impl_OpValid.calls a0_0 true _ A27.out).mono ?_); rintro e w' ⟨rfl, ⟨nd, rfl⟩⟩; refine ⟨_, rfl, ?_⟩))
    go_ret
    exact ⟨rr_, ab19_⟩
   rw [if_neg c30] at H
   have c30b0 : ((l0_2.length : Int) == 2) = false := beq_eq_false_iff_ne.mpr c30
   have c30b1 : ((l0_2.length : Int) != 2) = true := bne_iff_ne.mpr c30
   obtain rfl := Option.some.inj H
   go_wp2_with (first | ((with_reducible refine gate_callee (f := 92) rfl ?_); refine goesL_ (some 51) rfl rfl Try.func92 (by kernel_rfl) rfl #[.int .i64 a0_0] rfl ab1_ ?_; (with_reducible refine (impl_OpValid.calls a0_0 true _ A27.out).mono ?_); rintro e w' ⟨rfl, ⟨nd, rfl⟩⟩; refine ⟨_, rfl, ?_⟩))
   go_ret
   exact ⟨rr_, ab19_⟩
  rw [if_neg c29] at H
  have c29b0 : (a0_1 == 0) = false := beq_eq_false_iff_ne.mpr c29
  have c29b1 : (a0_1 != 0) = true := bne_iff_ne.mpr c29
  obtain rfl := Option.some.inj H
  go_wp2_with (first | ((with_reducible refine gate_callee (f := 92) rfl ?_); refine goesL_ (some 51) rfl rfl Try.func92 (by kernel_rfl) rfl #[.int .i64 a0_0] rfl ab1_ ?_; (with_reducible refine (impl_OpValid.calls a0_0 true _ A27.out).mono ?_); rintro e w' ⟨rfl, ⟨nd, rfl⟩⟩; refine ⟨_, rfl, ?_⟩))
  go_ret
  exact ⟨rr_, ab19_⟩
 replace c28 := Bool.eq_false_iff.mpr c28
 subst c28
 rw [if_neg (show ¬ (false = true) by decide)] at H
 obtain rfl := Option.some.inj H
 go_wp2_with (first | ((with_reducible refine gate_callee (f := 92) rfl ?_); refine goesL_ (some 51) rfl rfl Try.func92 (by kernel_rfl) rfl #[.int .i64 a0_0] rfl ab1_ ?_; (with_reducible refine (impl_OpValid.calls a0_0 false _ A27.out).mono ?_); rintro e w' ⟨rfl, ⟨nd, rfl⟩⟩; refine ⟨_, rfl, ?_⟩))
 go_ret
 exact ⟨rr_, ab19_⟩
theorem impl_ExprValid.mono : ∀ a0 a1 a2 k, LeO (impl_ExprValid.f k a0 a1 a2) (impl_ExprValid.f (k + 1) a0 a1 a2) := by
 intro a0 a1 a2 k
 unfold impl_ExprValid.f
 repeat' first
   | (with_reducible exact impl_exprValid.mono _ _ _ _ _)
   | (with_reducible exact LeO.refl _)
   | (with_reducible exact LeO.none _)
   | (with_reducible refine LeO.ite ?_ ?_)
   | (with_reducible refine LeO.bind ?_ (fun _ => ?_))
theorem impl_ExprValid.calls (k : Nat) (a0_0 : Int) (a0_1 : Int) (A0_2 : Option Addr) (c0_2 : Nat) (l0_2 : List (S34)) (r : Bool) (w : World) (hr0_2 : Kd.C k34 w A0_2 l0_2.length l0_2) (hc0_2 : l0_2.length ≤ c0_2) (h : impl_ExprValid.f k a0_0 a0_1 l0_2 = some r) :
  Calls Try.prog 72 #[.agg #[.int .i64 a0_0, .int .i64 a0_1, .slice A0_2 l0_2.length c0_2]] w fun e w' => e = .returned (.bool r) ∧ Below w.heap.size w w' := by
 have hu34 := Try.underlying34
 have HR0_2 := am hr0_2
 have HC0_2 := am hc0_2
 clear hr0_2 hc0_2
 have HB := am (Below.refl w.heap.size w)
 have H : ((impl_exprValid.f k a0_0 a0_1 l0_2 5).bind fun t545 => (some t545)) = some r := h
 clear h
 obtain ⟨t545, A20, H⟩ := bsm H
 (try dsimp only at H)
 have A2 := am A20
 clear A20
 obtain rfl := Option.some.inj H
 go_enter Try.func72, Try.ntmps72
 go_wp2_with (first | ((with_reducible refine gate_dst (N := 1) rfl ?_); refine box_event ?hg (N := 1) ?hd (cs := #[.int .i64 a0_0, .int .i64 a0_1, .slice A0_2 l0_2.length c0_2]) (t := 34) ?hr ?_; (case hd => rfl); (case hg => rfl); (case hr => first | (go_simp; done) | (go_simp; rfl)); intro gb544 hg w3 hbox hb; have n0_ := am (below_step ab2_ hb); have n1_ := am (hbox); have n2_ := am ((by rw [hg]; exact (below_size ab2_) : w.heap.size ≤ gb544)); have n3_ := am ((by rw [hg]; exact (below_size ab2_) : w.heap.size ≤ gb544)); clear HB; have HB := n0_; have BK544 := n1_; have GW544 := n2_; have GE544 := n3_; clear n0_ n1_ n2_ n3_ hb hbox hg; obtain ⟨hcz4_0, hcz4_1, hcz4_2, hfz4_0, hfz4_1, hfz4_2⟩ := bcf3_ BK544.out) | ((with_reducible refine gate_callee (f := 81) rfl ?_); refine goesL_ (some 4) rfl rfl Try.func81 (by kernel_rfl) rfl #[.agg #[.int .i64 a0_0, .int .i64 a0_1, .slice A0_2 l0_2.length c0_2], .int .i64 5] rfl ab1_ ?_; (with_reducible refine (impl_exprValid.calls k a0_0 a0_1 _ _ l0_2 5 t545 _ ?side1 ?side2 A2.out).mono ?_); (case side1 => repeat (first | exact (Kd.C_below HR0_2.out HB.out) | (with_reducible refine Kd.C_alloc ?_ _) | (with_reducible refine Kd.C_drewN ?_ _) | (with_reducible refine Kd.C_drew ?_))); (case side2 => exact HC0_2.out); rintro e w5 ⟨rfl, hb⟩; refine ⟨_, rfl, ?_⟩; have n0_ := am (blk_below (g := gb544) (o := .cells #[.int .i64 a0_0, .int .i64 a0_1, .slice A0_2 l0_2.length c0_2] 34 (0, 0)) (aG_ BK544.out) hb); have n1_ := am (below_step ab88_ hb); clear BK544 HB; have BK544 := n0_; have HB := n1_; clear n0_ n1_; (try clear hb); (try clear hb2); (try clear hk); (try clear hi)))
 go_ret
 exact ⟨rr_, ab88_⟩
theorem impl_stmtValid_1.calls (n limit : Int) (needed : Bool) (w : World) :
  Calls Try.prog 71 #[.int .i64 n, .int .i64 limit, .bool needed] w fun e w' => e = .returned (.bool (inr n limit needed)) ∧ Drawn0 w w' := by
 by_cases h0 : n = 0
 ·subst h0
  go_enter Try.func71, Try.ntmps71
  go_wp2
  go_ret
  exact ⟨by simp [inr], ab29_⟩
 have h0b : (n == 0) = false := beq_eq_false_iff_ne.mpr h0
 cases needed with
 | false =>
  go_enter Try.func71, Try.ntmps71
  go_wp2
  go_ret
  exact ⟨by simp [inr, h0], ab29_⟩
 | true =>
  by_cases h1 : 0 < n
  ·have h1b : decide (0 < n) = true := decide_eq_true h1
   by_cases h2 : n < limit
   ·have h2b : decide (n < limit) = true := decide_eq_true h2
    go_enter Try.func71, Try.ntmps71
    go_wp2
    go_ret
    exact ⟨by simp [inr, h0]; omega, ab29_⟩
   have h2b : decide (n < limit) = false := decide_eq_false h2
   go_enter Try.func71, Try.ntmps71
   go_wp2
   go_ret
   exact ⟨by simp [inr, h0]; omega, ab29_⟩
  have h1b : decide (0 < n) = false := decide_eq_false h1
  go_enter Try.func71, Try.ntmps71
  go_wp2
  go_ret
  exact ⟨by simp [inr, h0]; omega, ab29_⟩
theorem inr_calls {n limit : Int} {needed b : Bool} (w : World) (h : inr n limit needed = b) :
  Calls Try.prog 71 #[.int .i64 n, .int .i64 limit, .bool needed] w fun e w' => e = .returned (.bool b) ∧ Drawn0 w w' := h ▸ impl_stmtValid_1.calls n limit needed w
theorem stv_rest.mono : ∀ nv nb ne nd no va bx op n la lb le boxes k, LeO (stv_rest k nv nb ne nd no va bx op n la lb le boxes) (stv_rest (k + 1) nv nb ne nd no va bx op n la lb le boxes) := by
 intro nv nb ne nd no va bx op n la lb le boxes k
 unfold stv_rest
 repeat' first
 | (with_reducible exact LeO.refl _)
 | (with_reducible exact impl_ExprValid.mono _ _ _ _)
 | (with_reducible refine LeO.ite ?_ ?_)
 | (with_reducible refine LeO.bind ?_ (fun _ => ?_))
theorem impl_stmtValid.mono : ∀ kd va bx op n la lb le boxes k, LeO (impl_stmtValid.f k kd va bx op n la lb le boxes) (impl_stmtValid.f (k + 1) kd va bx op n la lb le boxes) := by
 intro kd va bx op n la lb le boxes k
 unfold impl_stmtValid.f
 repeat' first
 | (with_reducible exact LeO.refl _)
 | (with_reducible exact stv_rest.mono _ _ _ _ _ _ _ _ _ _ _ _ _ _)
 | (with_reducible refine LeO.ite ?_ ?_)
attribute [local irreducible] inr
theorem impl_stmtValid.callsP (k : Nat) (g : Addr) (kd va bx op n : Int) (Aa : Option Addr) (ca : Nat) (la : List S34) (Ab : Option Addr) (lb cb : Nat) (Ae : Option Addr) (le ce : Nat) (boxes : Int) (r : Bool) (w : World)
  (hg0 : w.cell? g = some (.int .i64 kd)) (hg1 : w.cell? ⟨g.block, g.off + 1, none⟩ = some (.int .i64 va)) (hg2 : w.cell? ⟨g.block, g.off + 2, none⟩ = some (.int .i64 bx))
  (hg3 : w.cell? ⟨g.block, g.off + 3, none⟩ = some (.int .i64 op)) (hg4 : w.cell? ⟨g.block, g.off + 4, none⟩ = some (.int .i64 n)) (hg5 : w.cell? ⟨g.block, g.off + 5, none⟩ = some (.slice Aa la.length ca))
  (hg6 : w.cell? ⟨g.block, g.off + 6, none⟩ = some (.slice Ab lb cb)) (hg7 : w.cell? ⟨g.block, g.off + 7, none⟩ = some (.slice Ae le ce))
  (hr : Kd.C k34 w Aa la.length la) (hc : la.length ≤ ca) (h : impl_stmtValid.f k kd va bx op n la lb le boxes = some r) :
  Calls Try.prog 64 #[.pointer (some g), .int .i64 boxes] w fun e w' => e = .returned (.bool r) ∧ Below w.heap.size w w' := by
 have HR := am hr
 have HC := am hc
 have HH := am h
 clear hr hc h
 go_enter Try.func64, Try.ntmps64
 go_upto_region 2 with (first | ((with_reducible refine gate_dst (N := 5) rfl ?_); refine box_event (N := 5) ?hg ?hd (cs := #[.bool false, .bool false, .bool false, .bool false, .bool false]) (t := 93) ?hr ?_; (case hd => rfl); (case hg => rfl); (case hr => first | (go_simp; done) | (go_simp; rfl)); intro gb hg w1 hbox hb) | fail)
 have k0 := pw_cell_below hb hg0
 have z0 := blk_cell hbox 0
 have z1 := blk_cell hbox 1
 have z2 := blk_cell hbox 2
 have z3 := blk_cell hbox 3
 have z4 := blk_cell hbox 4
 have f0 := blk_frozen hbox 0
 have f1 := blk_frozen hbox 1
 have f2 := blk_frozen hbox 2
 have f3 := blk_frozen hbox 3
 have f4 := blk_frozen hbox 4
 have HBX := am hbox
 have HB := am hb
 have HG := am (Nat.le_of_eq hg.symm)
 clear hbox hb hg
 go_upto_block 0 with fail
 go_cut [4, 5] from 7 (fun v4 v5 wc => ∃ nv nb ne nd no, v5 = .pointer (some ⟨gb, 0, none⟩) ∧ Aside0 (stv_rest k nv nb ne nd no va bx op n la lb le boxes = some r) ∧ Aside0 (wc.heap[gb]? = some (.cells #[.bool nv, .bool nb, .bool ne, .bool nd, .bool no] 93 (0, 0))) ∧ Aside0 (Below w.heap.size w wc))
 case first =>
  have H := HH.out
  clear HH
  unfold impl_stmtValid.f at H
  by_cases c1 : kd = 1
  ·rw [if_pos c1] at H
   subst c1
   have H' := am H
   clear H
   go_wp2
   go_meet
   case rel => exact ⟨true, false, true, false, false, rfl, H', ⟨(blk_put (blk_put HBX.out 0 (.bool true) (by rfl)) 2 (.bool true) (by rfl))⟩, ⟨(below_set (below_set HB.out HG.out) HG.out)⟩⟩
  rw [if_neg c1] at H
  have d1 : (kd == 1) = false := beq_eq_false_iff_ne.mpr c1
  by_cases c2 : kd = 2
  ·rw [if_pos c2] at H
   subst c2
   have H' := am H
   clear H
   go_wp2
   go_meet
   case rel => exact ⟨false, false, true, true, true, rfl, H', ⟨(blk_put (blk_put (blk_put HBX.out 2 (.bool true) (by rfl)) 3 (.bool true) (by rfl)) 4 (.bool true) (by rfl))⟩, ⟨(below_set (below_set (below_set HB.out HG.out) HG.out) HG.out)⟩⟩
  rw [if_neg c2] at H
  have d2 : (kd == 2) = false := beq_eq_false_iff_ne.mpr c2
  by_cases c3 : kd = 3
  ·rw [if_pos c3] at H
   subst c3
   have H' := am H
   clear H
   go_wp2
   go_meet
   case rel => exact ⟨false, false, true, true, false, rfl, H', ⟨(blk_put (blk_put HBX.out 2 (.bool true) (by rfl)) 3 (.bool true) (by rfl))⟩, ⟨(below_set (below_set HB.out HG.out) HG.out)⟩⟩
  rw [if_neg c3] at H
  have d3 : (kd == 3) = false := beq_eq_false_iff_ne.mpr c3
  by_cases c4 : kd = 4
  ·rw [if_pos c4] at H
   subst c4
   have H' := am H
   clear H
   go_wp2
   go_meet
   case rel => exact ⟨false, true, true, false, false, rfl, H', ⟨(blk_put (blk_put HBX.out 1 (.bool true) (by rfl)) 2 (.bool true) (by rfl))⟩, ⟨(below_set (below_set HB.out HG.out) HG.out)⟩⟩
  rw [if_neg c4] at H
  have d4 : (kd == 4) = false := beq_eq_false_iff_ne.mpr c4
  by_cases c5 : kd = 5
  ·rw [if_pos c5] at H
   subst c5
   have H' := am H
   clear H
   go_wp2
   go_meet
   case rel => exact ⟨true, true, false, false, false, rfl, H', ⟨(blk_put (blk_put HBX.out 1 (.bool true) (by rfl)) 0 (.bool true) (by rfl))⟩, ⟨(below_set (below_set HB.out HG.out) HG.out)⟩⟩
  rw [if_neg c5] at H
  have d5 : (kd == 5) = false := beq_eq_false_iff_ne.mpr c5
  by_cases c7 : kd = 7
  ·rw [if_pos c7] at H
   subst c7
   have H' := am H
   clear H
   go_wp2
   go_meet
   case rel => exact ⟨false, false, true, false, false, rfl, H', ⟨(blk_put HBX.out 2 (.bool true) (by rfl))⟩, ⟨(below_set HB.out HG.out)⟩⟩
  rw [if_neg c7] at H
  have d7 : (kd == 7) = false := beq_eq_false_iff_ne.mpr c7
  by_cases c6 : kd = 6
  ·rw [if_pos c6] at H
   subst c6
   have H' := am H
   clear H
   go_wp2
   go_meet
   case rel => exact ⟨false, false, false, false, false, rfl, H', ⟨HBX.out⟩, ⟨HB.out⟩⟩
  rw [if_neg c6] at H
  have d6 : (kd == 6) = false := beq_eq_false_iff_ne.mpr c6
  obtain rfl := Option.some.inj H
  go_wp2
  go_ret
  exact ⟨rfl, HB.out⟩
 case rest =>
  obtain ⟨nv, nb, ne, nd, no, rfl, HA, HX, HW⟩ := hcut
  have k1 := pw_cell_below HW.out hg1
  have k2 := pw_cell_below HW.out hg2
  have k3 := pw_cell_below HW.out hg3
  have k4 := pw_cell_below HW.out hg4
  have k5 := pw_cell_below HW.out hg5
  have k6 := pw_cell_below HW.out hg6
  have k7 := pw_cell_below HW.out hg7
  have y0 : wc.cell? ⟨gb, 0, none⟩ = some (.bool nv) := blk_cell HX.out 0
  have y1 : wc.cell? ⟨gb, 1, none⟩ = some (.bool nb) := blk_cell HX.out 1
  have y2 : wc.cell? ⟨gb, 2, none⟩ = some (.bool ne) := blk_cell HX.out 2
  have y3 : wc.cell? ⟨gb, 3, none⟩ = some (.bool nd) := blk_cell HX.out 3
  have y4 : wc.cell? ⟨gb, 4, none⟩ = some (.bool no) := blk_cell HX.out 4
  clear k0 z0 z1 z2 z3 z4 f0 f1 f2 f3 f4 HBX HB hg0 hg1 hg2 hg3 hg4 hg5 hg6 hg7 HH
  go_upto_region 18 with fail
  (try simp only [Act.put, List.setIfInBounds_toArray, List.set_cons_zero, List.set_cons_succ])
  go_cut [69] from 37 (fun v69 wc_ => ∃ (x : Bool), v69 = .bool x ∧ Aside0 (∃ m, wc_ = wc.drewN m) ∧ Aside0 (if x = true then r = false else (if ne = true then ((impl_ExprValid.f k op n la).bind fun t => if t = true then some ((nd || lb == 0) && (no || le == 0)) else some false) else (if op = 0 then (if n = 0 then (if 0 < (la.length : Int) then some false else some ((nd || lb == 0) && (no || le == 0))) else some false) else some false)) = some r))
  case first =>
   have H := HA.out
   clear HA
   unfold stv_rest at H
   by_cases i1 : inr va 4 nv = true
   ·rw [if_pos i1] at H
    by_cases i2 : inr bx boxes nb = true
    ·rw [if_pos i2] at H
     have I1 := am i1
     have I2 := am i2
     clear i1 i2
     by_cases i3 : nb = true ∧ boxes ≤ bx
     ·rw [if_pos i3] at H
      obtain ⟨i4, i5⟩ := i3
      subst i4
      have i6 := eq_true i5
      have H' := am (Option.some.inj H)
      clear H i5
      go_big_quiet (first | (with_reducible refine Calls.quiet_of ((inr_calls _ I1.out).mono (fun e w' hq => ⟨hq.1, hq.2.out⟩))) | (with_reducible refine Calls.quiet_of ((inr_calls _ I2.out).mono (fun e w' hq => ⟨hq.1, hq.2.out⟩))))
      go_wp2
      go_meet
      case rel => exact ⟨true, rfl, ⟨_, rfl⟩, ⟨by rw [if_pos rfl]; exact H'.out.symm⟩⟩
     rw [if_neg i3] at H
     have H' := am H
     clear H
     cases nb with
     | false =>
      clear i3
      go_big_quiet (first | (with_reducible refine Calls.quiet_of ((inr_calls _ I1.out).mono (fun e w' hq => ⟨hq.1, hq.2.out⟩))) | (with_reducible refine Calls.quiet_of ((inr_calls _ I2.out).mono (fun e w' hq => ⟨hq.1, hq.2.out⟩))))
      go_wp2
      go_meet
      case rel => exact ⟨false, rfl, ⟨_, rfl⟩, ⟨by rw [if_neg (by decide)]; exact H'.out⟩⟩
     | true =>
      have i5 : ¬ boxes ≤ bx := fun h => i3 ⟨rfl, h⟩
      have i6 := eq_false i5
      clear i3 i5
      go_big_quiet (first | (with_reducible refine Calls.quiet_of ((inr_calls _ I1.out).mono (fun e w' hq => ⟨hq.1, hq.2.out⟩))) | (with_reducible refine Calls.quiet_of ((inr_calls _ I2.out).mono (fun e w' hq => ⟨hq.1, hq.2.out⟩))))
      go_wp2
      go_meet
      case rel => exact ⟨false, rfl, ⟨_, rfl⟩, ⟨by rw [if_neg (by decide)]; exact H'.out⟩⟩
    rw [if_neg i2] at H
    have I1 := am i1
    have I2 := am (Bool.eq_false_iff.mpr i2)
    clear i1 i2
    have H' := am (Option.some.inj H)
    clear H
    go_big_quiet (first | (with_reducible refine Calls.quiet_of ((inr_calls _ I1.out).mono (fun e w' hq => ⟨hq.1, hq.2.out⟩))) | (with_reducible refine Calls.quiet_of ((inr_calls _ I2.out).mono (fun e w' hq => ⟨hq.1, hq.2.out⟩))))
    go_wp2
    go_meet
    case rel => exact ⟨true, rfl, ⟨_, rfl⟩, ⟨by rw [if_pos rfl]; exact H'.out.symm⟩⟩
   rw [if_neg i1] at H
   have I1 := am (Bool.eq_false_iff.mpr i1)
   clear i1
   have H' := am (Option.some.inj H)
   clear H
   go_big_quiet (first | (with_reducible refine Calls.quiet_of ((inr_calls _ I1.out).mono (fun e w' hq => ⟨hq.1, hq.2.out⟩))))
   go_wp2
   go_meet
   case rel => exact ⟨true, rfl, ⟨_, rfl⟩, ⟨by rw [if_pos rfl]; exact H'.out.symm⟩⟩
  case rest =>
   clear HA
   obtain ⟨x, rfl, ⟨m, rfl⟩, HA⟩ := hcut
   cases x with
   | true =>
    have HA' := HA.out
    rw [if_pos rfl] at HA'
    subst HA'
    clear HA
    go_wp2
    go_ret
    exact ⟨rfl, pw_below_drewN HW.out _⟩
   | false =>
    have H := HA.out
    rw [if_neg (by decide)] at H
    clear HA
    go_upto_region 20 with fail
    (try simp only [Act.put, List.setIfInBounds_toArray, List.set_cons_zero, List.set_cons_succ])
    go_cut [109] from 70 (fun v109 wd => ∃ (x : Bool), v109 = .bool x ∧ Aside0 (Below w.heap.size w wd) ∧ Aside0 (Below wc.heap.size wc wd) ∧ Aside0 (if x = true then r = false else ((nd || lb == 0) && (no || le == 0)) = r))
    case first =>
     cases ne with
     | true =>
      rw [if_pos rfl] at H
      obtain ⟨t, ht, H⟩ := bsm H
      have HE := am ht
      have HR1 := am (Kd.C_below HR.out HW.out)
      clear ht
      cases t with
      | true =>
       rw [if_pos rfl] at H
       have H' := am (Option.some.inj H)
       clear H
       go_wp2_with (first | ((with_reducible refine (impl_ExprValid.calls k op n Aa ca la _ _ ?side1 ?side2 HE.out).mono ?_); (case side1 => repeat (first | exact HR1.out | (with_reducible refine Kd.C_drewN ?_ _) | (with_reducible refine Kd.C_drew ?_))); (case side2 => exact HC.out); rintro e wq ⟨rfl, hb⟩; have y2q : wq.cell? ⟨gb, 2, none⟩ = some (.bool true) := pw_cell_below (w := wc.drewN m) hb y2; have HBE := am (show Below wc.heap.size wc wq from (pw_below_drewN (Below.refl _ _) m).trans hb); clear hb; (try dsimp only)) | fail)
       go_meet
       case rel => exact ⟨false, rfl, ⟨below_step HW.out HBE.out⟩, ⟨HBE.out⟩, ⟨by rw [if_neg (by decide)]; exact H'.out⟩⟩
      | false =>
       rw [if_neg (by decide)] at H
       have H' := am (Option.some.inj H)
       clear H
       go_wp2_with (first | ((with_reducible refine (impl_ExprValid.calls k op n Aa ca la _ _ ?side1 ?side2 HE.out).mono ?_); (case side1 => repeat (first | exact HR1.out | (with_reducible refine Kd.C_drewN ?_ _) | (with_reducible refine Kd.C_drew ?_))); (case side2 => exact HC.out); rintro e wq ⟨rfl, hb⟩; have y2q : wq.cell? ⟨gb, 2, none⟩ = some (.bool true) := pw_cell_below (w := wc.drewN m) hb y2; have HBE := am (show Below wc.heap.size wc wq from (pw_below_drewN (Below.refl _ _) m).trans hb); clear hb; (try dsimp only)) | fail)
       go_meet
       case rel => exact ⟨true, rfl, ⟨below_step HW.out HBE.out⟩, ⟨HBE.out⟩, ⟨by rw [if_pos rfl]; exact H'.out.symm⟩⟩
     | false =>
      rw [if_neg (by decide)] at H
      by_cases j0 : op = 0
      ·rw [if_pos j0] at H
       by_cases j1 : n = 0
       ·rw [if_pos j1] at H
        subst j0
        subst j1
        by_cases j2 : 0 < (la.length : Int)
        ·rw [if_pos j2] at H
         have H' := am (Option.some.inj H)
         clear H
         have j3 := eq_true j2
         have j4 : (0 < la.length) = True := eq_true (by omega)
         clear j2
         go_wp2
         go_meet
         case rel => exact ⟨true, (by first | rfl | (simp; done) | (simp [*]; done)), ⟨pw_below_drewN HW.out _⟩, ⟨pw_below_drewN (Below.refl _ _) _⟩, ⟨by rw [if_pos rfl]; exact H'.out.symm⟩⟩
        rw [if_neg j2] at H
        have H' := am (Option.some.inj H)
        clear H
        have j3 := eq_false j2
        have j4 : (0 < la.length) = False := eq_false (by omega)
        clear j2
        go_wp2
        go_meet
        case rel => exact ⟨false, (by first | rfl | (simp; done) | (simp [*]; done)), ⟨pw_below_drewN HW.out _⟩, ⟨pw_below_drewN (Below.refl _ _) _⟩, ⟨by rw [if_neg (by decide)]; exact H'.out⟩⟩
       rw [if_neg j1] at H
       have H' := am (Option.some.inj H)
       clear H
       subst j0
       have j2 : (n != 0) = true := bne_iff_ne.mpr j1
       clear j1
       go_wp2
       go_meet
       case rel => exact ⟨true, (by first | rfl | (simp; done) | (simp [*]; done)), ⟨pw_below_drewN HW.out _⟩, ⟨pw_below_drewN (Below.refl _ _) _⟩, ⟨by rw [if_pos rfl]; exact H'.out.symm⟩⟩
      rw [if_neg j0] at H
      have H' := am (Option.some.inj H)
      clear H
      have j2 : (op != 0) = true := bne_iff_ne.mpr j0
      clear j0
      go_wp2
      go_meet
      case rel => exact ⟨true, (by first | rfl | (simp; done) | (simp [*]; done)), ⟨pw_below_drewN HW.out _⟩, ⟨pw_below_drewN (Below.refl _ _) _⟩, ⟨by rw [if_pos rfl]; exact H'.out.symm⟩⟩
    case rest =>
     clear H
     obtain ⟨x, rfl, HW2, HW3, HA⟩ := hcut
     cases x with
     | true =>
      have HA' := HA.out
      rw [if_pos rfl] at HA'
      subst HA'
      clear HA
      go_wp2
      go_ret
      exact ⟨rfl, HW2.out⟩
     | false =>
      have H := HA.out
      rw [if_neg (by decide)] at H
      subst H
      have k6' := pw_cell_below HW3.out k6
      have k7' := pw_cell_below HW3.out k7
      have y3' := pw_cell_below HW3.out y3
      have y4' := pw_cell_below HW3.out y4
      clear HA k1 k2 k3 k4 k5 k6 k7 y0 y1 y2 y3 y4
      by_cases q6 : lb = 0
      ·have p6 : ((lb : Int) == 0) = true := by rw [q6]; rfl
       by_cases q7 : le = 0
       ·have p7 : ((le : Int) == 0) = true := by rw [q7]; rfl
        have Q6 := am q6
        have Q7 := am q7
        clear q6 q7
        cases nd <;> cases no <;> (go_wp2; go_ret; exact ⟨by simp [Q6.out, Q7.out], HW2.out⟩)
       have p7 : ((le : Int) == 0) = false := beq_eq_false_iff_ne.mpr (by omega)
       have Q6 := am q6
       have Q7 := am q7
       clear q6 q7
       cases nd <;> cases no <;> (go_wp2; go_ret; exact ⟨by simp [Q6.out, Q7.out], HW2.out⟩)
      have p6 : ((lb : Int) == 0) = false := beq_eq_false_iff_ne.mpr (by omega)
      have Q6 := am q6
      clear q6
      cases nd with
      | false =>
       go_wp2
       go_ret
       exact ⟨by simp [Q6.out], HW2.out⟩
      | true =>
       by_cases q7 : le = 0
       ·have p7 : ((le : Int) == 0) = true := by rw [q7]; rfl
        have Q7 := am q7
        clear q7
        cases no <;> (go_wp2; go_ret; exact ⟨by simp [p7, Q7.out], HW2.out⟩)
       have p7 : ((le : Int) == 0) = false := beq_eq_false_iff_ne.mpr (by omega)
       have Q7 := am q7
       clear q7
       cases no <;> (go_wp2; go_ret; exact ⟨by simp [p7, Q7.out], HW2.out⟩)
theorem impl_blockValid.mono_l : ∀ k, (∀ y0 y1 y2 y3, LeO (impl_blockValid.f k y0 y1 y2 y3) (impl_blockValid.f (k + 1) y0 y1 y2 y3)) ∧ (∀ y0 y1 y2 y3 y4, LeO (impl_blockValid.l0 k y0 y1 y2 y3 y4) (impl_blockValid.l0 (k + 1) y0 y1 y2 y3 y4))
 | 0 => ⟨fun _ _ _ _ r h => by simp [impl_blockValid.f] at h, fun _ _ _ _ _ r h => by simp [impl_blockValid.l0] at h⟩
 | k + 1 => by
  obtain ⟨ih0, ih1⟩ := impl_blockValid.mono_l k
  refine ⟨?_, ?_⟩
  ·intro y0 y1 y2 y3
   unfold impl_blockValid.f
   repeat' first
   | (with_reducible exact ih0 _ _ _ _)
   | (with_reducible exact ih1 _ _ _ _ _)
   | (with_reducible exact impl_stmtValid.mono _ _ _ _ _ _ _ _ _ _)
   | (with_reducible exact LeO.refl _)
   | (with_reducible exact LeO.none _)
   | (with_reducible refine LeO.ite ?_ ?_)
   | (with_reducible refine LeO.bind ?_ (fun _ => ?_))
  ·intro y0 y1 y2 y3 y4
   unfold impl_blockValid.l0
   repeat' first
   | (with_reducible exact ih0 _ _ _ _)
   | (with_reducible exact ih1 _ _ _ _ _)
   | (with_reducible exact impl_stmtValid.mono _ _ _ _ _ _ _ _ _ _)
   | (with_reducible exact LeO.refl _)
   | (with_reducible exact LeO.none _)
   | (with_reducible refine LeO.ite ?_ ?_)
   | (with_reducible refine LeO.bind ?_ (fun _ => ?_))
theorem impl_blockValid.mono : ∀ a0 a1 a2 a3 k, LeO (impl_blockValid.f k a0 a1 a2 a3) (impl_blockValid.f (k + 1) a0 a1 a2 a3) := by
 intro a0 a1 a2 a3 k
 obtain ⟨ih0, ih1⟩ := impl_blockValid.mono_l k
 exact ih0 a0 a1 a2 a3
theorem atF_T37 {w : World} {ok : Nat → Prop} {A : Option Addr} {n : Nat} {xs : List S37} (h : Kd.F k37 w ok A n xs) (i : Int) (h0 : 0 ≤ i) (h1 : i < n) :
  ∃ ad A5 c5 A6 c6 A7 c7, A = some ad ∧ w.cell? (ad.add (i.toNat * 8)) = some (.int .i64 (rd_T37 xs i).f0) ∧ w.cell? ⟨(ad.add (i.toNat * 8)).block, (ad.add (i.toNat * 8)).off + 1, none⟩ = some (.int .i64 (rd_T37 xs i).f1) ∧ w.cell? ⟨(ad.add (i.toNat * 8)).block, (ad.add (i.toNat * 8)).off + 2, none⟩ = some (.int .i64 (rd_T37 xs i).f2) ∧ w.cell? ⟨(ad.add (i.toNat * 8)).block, (ad.add (i.toNat * 8)).off + 3, none⟩ = some (.int .i64 (rd_T37 xs i).f3.f0) ∧ w.cell? ⟨(ad.add (i.toNat * 8)).block, (ad.add (i.toNat * 8)).off + 4, none⟩ = some (.int .i64 (rd_T37 xs i).f3.f1) ∧ w.cell? ⟨(ad.add (i.toNat * 8)).block, (ad.add (i.toNat * 8)).off + 5, none⟩ = some (.slice A5 (rd_T37 xs i).f3.f2.length c5) ∧ w.cell? ⟨(ad.add (i.toNat * 8)).block, (ad.add (i.toNat * 8)).off + 6, none⟩ = some (.slice A6 (rd_T37 xs i).f4.length c6) ∧ w.cell? ⟨(ad.add (i.toNat * 8)).block, (ad.add (i.toNat * 8)).off + 7, none⟩ = some (.slice A7 (rd_T37 xs i).f5.length c7) ∧ (rd_T37 xs i).f3.f2.length ≤ c5 ∧ Kd.F k34 w ok A5 (rd_T37 xs i).f3.f2.length (rd_T37 xs i).f3.f2 ∧ (rd_T37 xs i).f4.length ≤ c6 ∧ Kd.F k37 w ok A6 (rd_T37 xs i).f4.length (rd_T37 xs i).f4 ∧ (rd_T37 xs i).f5.length ≤ c7 ∧ Kd.F k37 w ok A7 (rd_T37 xs i).f5.length (rd_T37 xs i).f5 := by
 obtain ⟨ad, c, e, _, hK, hc0, _⟩ := Kd.F_get h z37 i h0 h1
 have hc : ∀ j u, c[j]? = some u → w.cell? (ad.add (i.toNat * 8 + j)) = some u := hc0
 obtain ⟨A5, c5, A6, c6, A7, c7, rfl, l5, g5, l6, g6, l7, g7⟩ := k37_openF hK
 exact ⟨ad, A5, c5, A6, c6, A7, c7, e, hc 0 _ rfl, by rw [← add_field _ _ 1 (by omega)]; exact hc 1 _ rfl, by rw [← add_field _ _ 2 (by omega)]; exact hc 2 _ rfl, by rw [← add_field _ _ 3 (by omega)]; exact hc 3 _ rfl, by rw [← add_field _ _ 4 (by omega)]; exact hc 4 _ rfl, by rw [← add_field _ _ 5 (by omega)]; exact hc 5 _ rfl, by rw [← add_field _ _ 6 (by omega)]; exact hc 6 _ rfl, by rw [← add_field _ _ 7 (by omega)]; exact hc 7 _ rfl, l5, g5, l6, g6, l7, g7⟩
theorem cell_keep {w w1 : World} {g : Nat} {a : Addr} {v : Value} (hk : KeepBut w w1 g none) (h : w.cell? a = some v) (hne : a.block ≠ g) : w1.cell? a = some v :=
 (World.cell?_of_block (w := w) (hk.2 a.block (World.block_lt_of_cell? w a h) hne (by simp))).trans h
theorem impl_blockValid.callsP (k : Nat) : ∀ (A : Option Addr) (c : Nat) (l : List S37) (boxes blocks cnt : Int) (gc B : Nat) (ok : Nat → Prop) (r : Bool) (cnt' : Int) (w : World)
  (hF : Kd.F k37 w ok A l.length l) (hc : l.length ≤ c) (hno : ¬ ok gc) (hB : B ≤ gc) (hb : w.heap[gc]? = some (.cells #[.int .i64 cnt] 3 (0, 0))) (h : impl_blockValid.f k l boxes blocks cnt = some (r, cnt')),
  Calls Try.prog 52 #[.slice A l.length c, .int .i64 boxes, .int .i64 blocks, .pointer (some ⟨gc, 0, none⟩)] w fun e w' => e = .returned (.bool r) ∧ w'.heap[gc]? = some (.cells #[.int .i64 cnt'] 3 (0, 0)) ∧ KeepBut w w' gc none ∧ Below B w w' := by
 induction k using Nat.strongRecOn with
 | _ k ih =>
 intro A c l boxes blocks cnt gc B ok r cnt' w hF hc hno hB hb h
 cases k with
 | zero => exact absurd h (by simp [impl_blockValid.f])
 | succ k =>
 simp only [impl_blockValid.f] at h
 have HF := am hF
 have HC := am hc
 have HNO := am hno
 have HGB := am hB
 have HBX := am hb
 have z0 : w.cell? ⟨gc, 0, none⟩ = some (.int .i64 cnt) := blk_cell hb 0
 have f0 := blk_frozen hb 0
 have HB1 := am (blk_put (cs' := #[.int .i64 (wrap64 (cnt + (l.length : Int)))]) hb 0 (.int .i64 (wrap64 (cnt + (l.length : Int)))) rfl)
 have HK1 := am (KeepBut.set_ (KeepBut.refl w gc none) 0 (.int .i64 (wrap64 (cnt + (l.length : Int)))))
 have HW1 := am (Below.setCell (p := ⟨gc, 0, none⟩) (Below.refl B w) hB (.int .i64 (wrap64 (cnt + (l.length : Int)))))
 clear hF hc hno hb hB
 by_cases c0 : 16 < wrap64 (cnt + (l.length : Int))
 ·rw [if_pos c0] at h
  have h1 := Option.some.inj h
  injection h1 with h1 h2
  subst h1
  subst h2
  have c0b : decide (16 < wrap64 (cnt + (l.length : Int))) = true := decide_eq_true c0
  clear h
  go_enter Try.func52, Try.ntmps52
  go_wp2
  go_ret
  exact ⟨rfl, HB1.out, HK1.out, HW1.out⟩
 rw [if_neg c0] at h
 have c0b : decide (16 < wrap64 (cnt + (l.length : Int))) = false := decide_eq_false c0
 have H' := am h
 clear h
 go_enter Try.func52, Try.ntmps52
 go_wp2
 go_loopg [24] k (fun kq v24 w' => ∃ (i cq : Int), v24 = .int .i64 i ∧ Aside0 (impl_blockValid.l0 kq l boxes blocks i cq = some (r, cnt')) ∧ Aside0 (kq ≤ k) ∧ Aside0 (w'.heap[gc]? = some (.cells #[.int .i64 cq] 3 (0, 0))) ∧ Aside0 (KeepBut w w' gc none) ∧ Aside0 (Below B w w'))
 case atStart => exact ⟨0, _, rfl, H', ⟨Nat.le_refl _⟩, HB1, HK1, HW1⟩
 case round =>
  obtain ⟨i, cq, rfl, HA, HK, HBQ, HKQ, HWQ⟩ := hrel
  cases gk with
  | zero => exact absurd HA.out (by simp [impl_blockValid.l0])
  | succ k1 =>
   have H := HA.out
   clear HA
   simp only [impl_blockValid.l0] at H
   by_cases c1 : i < (l.length : Int)
   ·rw [if_pos c1] at H
    by_cases c2 : 0 ≤ i
    ·rw [if_pos c2] at H
     obtain ⟨t, ht, H⟩ := bsm H
     have hF' := Kd.F_step HF.out (fun q hq hlt => HKQ.out.2 q hlt (fun e => HNO.out (e ▸ hq)) (by simp))
     obtain ⟨ad, A5, c5, A6, c6, A7, c7, rfl, x0, x1, x2, x3, x4, x5, x6, x7, l5, g5, l6, g6, l7, g7⟩ := atF_T37 hF' i c2 c1
     obtain ⟨ad_, cs_, e_, _, _, _, okad⟩ := Kd.F_get hF' z37 i c2 c1
     cases e_
     have NE7 := am (show (ad.add (i.toNat * 8)).block ≠ gc from fun e => HNO.out (e ▸ (add_block ad _).symm ▸ okad (by decide)))
     clear okad
     have HT := am ht
     have c1b : decide (i < (l.length : Int)) = true := decide_eq_true c1
     have p0 := eq_true c2
     have p1 := eq_true c1
     have G5 := am (Kd.F_now g5)
     have L5 := am l5
     have G6 := am g6
     have L6 := am l6
     have G7 := am g7
     have L7 := am l7
     clear ht hF' g5 l5 g6 l6 g7 l7 c1 c2 z0 f0
     cases t with
     | false =>
      rw [if_neg (by decide)] at H
      have h1 := Option.some.inj H
      injection h1 with h1 h2
      subst h1
      subst h2
      clear H
      go_wp2_with (first | ((with_reducible refine (impl_stmtValid.callsP k1 (ad.add (i.toNat * 8)) _ _ _ _ _ A5 c5 _ A6 _ c6 A7 _ c7 _ _ _ x0 x1 x2 x3 x4 x5 x6 x7 G5.out L5.out HT.out).mono ?_); rintro e wa ⟨rfl, hb⟩; have y0 := pw_cell_below hb x0; have y6 := pw_cell_below hb x6; have y7 := pw_cell_below hb x7; have BXA := am (blk_below HBQ.out hb); have KA := am (KeepBut.trans HKQ.out (KeepBut.of_below hb gc none) (.inl rfl)); have WA := am (HWQ.out.trans (hb.mono (Nat.le_of_lt (Nat.lt_of_le_of_lt HGB.out (blk_lt HBQ.out))))); have G6A := am (Kd.F_below G6.out hb); have G7A := am (Kd.F_below G7.out hb); clear hb; (try dsimp only)))
      go_ret
      exact ⟨rfl, BXA.out, KA.out, WA.out⟩
     | true =>
      rw [if_pos rfl] at H
      by_cases c3 : 3 < blocks
      ·rw [if_pos c3] at H
       have c3b : decide (3 < blocks) = true := decide_eq_true c3
       have h1 := Option.some.inj H
       injection h1 with h1 h2
       subst h1
       subst h2
       clear H
       go_wp2_with (first | ((with_reducible refine (impl_stmtValid.callsP k1 (ad.add (i.toNat * 8)) _ _ _ _ _ A5 c5 _ A6 _ c6 A7 _ c7 _ _ _ x0 x1 x2 x3 x4 x5 x6 x7 G5.out L5.out HT.out).mono ?_); rintro e wa ⟨rfl, hb⟩; have y0 := pw_cell_below hb x0; have y6 := pw_cell_below hb x6; have y7 := pw_cell_below hb x7; have BXA := am (blk_below HBQ.out hb); have KA := am (KeepBut.trans HKQ.out (KeepBut.of_below hb gc none) (.inl rfl)); have WA := am (HWQ.out.trans (hb.mono (Nat.le_of_lt (Nat.lt_of_le_of_lt HGB.out (blk_lt HBQ.out))))); have G6A := am (Kd.F_below G6.out hb); have G7A := am (Kd.F_below G7.out hb); clear hb; (try dsimp only)))
       go_ret
       exact ⟨rfl, BXA.out, KA.out, WA.out⟩
      rw [if_neg c3] at H
      have c3b : decide (3 < blocks) = false := decide_eq_false c3
      by_cases c4 : (rd_T37 l i).f0 = 2 ∨ (rd_T37 l i).f0 = 3
      ·rw [if_pos c4] at H
       by_cases c5_ : 3 ≤ blocks
       ·rw [if_pos c5_] at H
        have c5b : decide (3 ≤ blocks) = true := decide_eq_true c5_
        clear c3 c5_
        have h1 := Option.some.inj H
        injection h1 with h1 h2
        subst h1
        subst h2
        clear H
        rcases c4 with c4 | c4
        ·have d2 : ((rd_T37 l i).f0 != 2) = false := bne_eq_false_iff_eq.mpr c4
         clear c4
         go_wp2_with (first | ((with_reducible refine (impl_stmtValid.callsP k1 (ad.add (i.toNat * 8)) _ _ _ _ _ A5 c5 _ A6 _ c6 A7 _ c7 _ _ _ x0 x1 x2 x3 x4 x5 x6 x7 G5.out L5.out HT.out).mono ?_); rintro e wa ⟨rfl, hb⟩; have y0 := pw_cell_below hb x0; have y6 := pw_cell_below hb x6; have y7 := pw_cell_below hb x7; have BXA := am (blk_below HBQ.out hb); have KA := am (KeepBut.trans HKQ.out (KeepBut.of_below hb gc none) (.inl rfl)); have WA := am (HWQ.out.trans (hb.mono (Nat.le_of_lt (Nat.lt_of_le_of_lt HGB.out (blk_lt HBQ.out))))); have G6A := am (Kd.F_below G6.out hb); have G7A := am (Kd.F_below G7.out hb); clear hb; (try dsimp only)))
         go_ret
         exact ⟨rfl, BXA.out, KA.out, WA.out⟩
        ·have d2 : ((rd_T37 l i).f0 != 2) = true := bne_iff_ne.mpr (by omega)
         have d3 : ((rd_T37 l i).f0 != 3) = false := bne_eq_false_iff_eq.mpr c4
         clear c4
         go_wp2_with (first | ((with_reducible refine (impl_stmtValid.callsP k1 (ad.add (i.toNat * 8)) _ _ _ _ _ A5 c5 _ A6 _ c6 A7 _ c7 _ _ _ x0 x1 x2 x3 x4 x5 x6 x7 G5.out L5.out HT.out).mono ?_); rintro e wa ⟨rfl, hb⟩; have y0 := pw_cell_below hb x0; have y6 := pw_cell_below hb x6; have y7 := pw_cell_below hb x7; have BXA := am (blk_below HBQ.out hb); have KA := am (KeepBut.trans HKQ.out (KeepBut.of_below hb gc none) (.inl rfl)); have WA := am (HWQ.out.trans (hb.mono (Nat.le_of_lt (Nat.lt_of_le_of_lt HGB.out (blk_lt HBQ.out))))); have G6A := am (Kd.F_below G6.out hb); have G7A := am (Kd.F_below G7.out hb); clear hb; (try dsimp only)))
         go_ret
         exact ⟨rfl, BXA.out, KA.out, WA.out⟩
       rw [if_neg c5_] at H
       have c5b : decide (3 ≤ blocks) = false := decide_eq_false c5_
       clear c3 c5_
       obtain ⟨⟨r1, c1_⟩, hp, H⟩ := bsm H
       have HP := am hp
       clear hp
       cases r1 with
       | false =>
        rw [if_neg Bool.false_ne_true] at H
        have h1 := Option.some.inj H
        injection h1 with h1 h2
        subst h1
        subst h2
        clear H
        rcases c4 with c4 | c4
        ·have d2 : ((rd_T37 l i).f0 != 2) = false := bne_eq_false_iff_eq.mpr c4
         clear c4
         go_wp2_with (first | ((with_reducible refine (impl_stmtValid.callsP k1 (ad.add (i.toNat * 8)) _ _ _ _ _ A5 c5 _ A6 _ c6 A7 _ c7 _ _ _ x0 x1 x2 x3 x4 x5 x6 x7 G5.out L5.out HT.out).mono ?_); rintro e wa ⟨rfl, hb⟩; have y0 := pw_cell_below hb x0; have y6 := pw_cell_below hb x6; have y7 := pw_cell_below hb x7; have BXA := am (blk_below HBQ.out hb); have KA := am (KeepBut.trans HKQ.out (KeepBut.of_below hb gc none) (.inl rfl)); have WA := am (HWQ.out.trans (hb.mono (Nat.le_of_lt (Nat.lt_of_le_of_lt HGB.out (blk_lt HBQ.out))))); have G6A := am (Kd.F_below G6.out hb); have G7A := am (Kd.F_below G7.out hb); clear hb; (try dsimp only)) | ((with_reducible refine (ih k1 (by have := HK.out; omega) A6 c6 _ boxes (wrap64 (blocks + 1)) cq gc B ok _ _ _ G6A.out L6.out HNO.out HGB.out BXA.out HP.out).mono ?_); rintro e wb ⟨rfl, hx, hk, hw⟩; have ne7 := am hk; have u7 := cell_keep hk y7 NE7.out; have G7B := am (Kd.F_step G7A.out (fun q hq hlt => hk.2 q hlt (fun e => HNO.out (e ▸ hq)) (by simp))); have BXB := am hx; have KB := am (KeepBut.trans KA.out hk (.inl rfl)); have WB := am (WA.out.trans hw); clear hx hk hw; (try dsimp only)))
         go_ret
         exact ⟨rfl, BXB.out, KB.out, WB.out⟩
        ·have d2 : ((rd_T37 l i).f0 != 2) = true := bne_iff_ne.mpr (by omega)
         have d3 : ((rd_T37 l i).f0 != 3) = false := bne_eq_false_iff_eq.mpr c4
         clear c4
         go_wp2_with (first | ((with_reducible refine (impl_stmtValid.callsP k1 (ad.add (i.toNat * 8)) _ _ _ _ _ A5 c5 _ A6 _ c6 A7 _ c7 _ _ _ x0 x1 x2 x3 x4 x5 x6 x7 G5.out L5.out HT.out).mono ?_); rintro e wa ⟨rfl, hb⟩; have y0 := pw_cell_below hb x0; have y6 := pw_cell_below hb x6; have y7 := pw_cell_below hb x7; have BXA := am (blk_below HBQ.out hb); have KA := am (KeepBut.trans HKQ.out (KeepBut.of_below hb gc none) (.inl rfl)); have WA := am (HWQ.out.trans (hb.mono (Nat.le_of_lt (Nat.lt_of_le_of_lt HGB.out (blk_lt HBQ.out))))); have G6A := am (Kd.F_below G6.out hb); have G7A := am (Kd.F_below G7.out hb); clear hb; (try dsimp only)) | ((with_reducible refine (ih k1 (by have := HK.out; omega) A6 c6 _ boxes (wrap64 (blocks + 1)) cq gc B ok _ _ _ G6A.out L6.out HNO.out HGB.out BXA.out HP.out).mono ?_); rintro e wb ⟨rfl, hx, hk, hw⟩; have ne7 := am hk; have u7 := cell_keep hk y7 NE7.out; have G7B := am (Kd.F_step G7A.out (fun q hq hlt => hk.2 q hlt (fun e => HNO.out (e ▸ hq)) (by simp))); have BXB := am hx; have KB := am (KeepBut.trans KA.out hk (.inl rfl)); have WB := am (WA.out.trans hw); clear hx hk hw; (try dsimp only)))
         go_ret
         exact ⟨rfl, BXB.out, KB.out, WB.out⟩
       | true =>
        rw [if_pos rfl] at H
        obtain ⟨⟨r2, c2_⟩, hq, H⟩ := bsm H
        have HQ := am hq
        clear hq
        cases r2 with
        | false =>
         rw [if_neg Bool.false_ne_true] at H
         have h1 := Option.some.inj H
         injection h1 with h1 h2
         subst h1
         subst h2
         clear H
         rcases c4 with c4 | c4
         ·have d2 : ((rd_T37 l i).f0 != 2) = false := bne_eq_false_iff_eq.mpr c4
          clear c4
          go_wp2_with (first | ((with_reducible refine (impl_stmtValid.callsP k1 (ad.add (i.toNat * 8)) _ _ _ _ _ A5 c5 _ A6 _ c6 A7 _ c7 _ _ _ x0 x1 x2 x3 x4 x5 x6 x7 G5.out L5.out HT.out).mono ?_); rintro e wa ⟨rfl, hb⟩; have y0 := pw_cell_below hb x0; have y6 := pw_cell_below hb x6; have y7 := pw_cell_below hb x7; have BXA := am (blk_below HBQ.out hb); have KA := am (KeepBut.trans HKQ.out (KeepBut.of_below hb gc none) (.inl rfl)); have WA := am (HWQ.out.trans (hb.mono (Nat.le_of_lt (Nat.lt_of_le_of_lt HGB.out (blk_lt HBQ.out))))); have G6A := am (Kd.F_below G6.out hb); have G7A := am (Kd.F_below G7.out hb); clear hb; (try dsimp only)) | ((with_reducible refine (ih k1 (by have := HK.out; omega) A6 c6 _ boxes (wrap64 (blocks + 1)) cq gc B ok _ _ _ G6A.out L6.out HNO.out HGB.out BXA.out HP.out).mono ?_); rintro e wb ⟨rfl, hx, hk, hw⟩; have ne7 := am hk; have u7 := cell_keep hk y7 NE7.out; have G7B := am (Kd.F_step G7A.out (fun q hq hlt => hk.2 q hlt (fun e => HNO.out (e ▸ hq)) (by simp))); have BXB := am hx; have KB := am (KeepBut.trans KA.out hk (.inl rfl)); have WB := am (WA.out.trans hw); clear hx hk hw; (try dsimp only)) | ((with_reducible refine (ih k1 (by have := HK.out; omega) A7 c7 _ boxes (wrap64 (blocks + 1)) _ gc B ok _ _ _ G7B.out L7.out HNO.out HGB.out BXB.out HQ.out).mono ?_); rintro e wd ⟨rfl, hx, hk, hw⟩; have BXD := am hx; have KD := am (KeepBut.trans KB.out hk (.inl rfl)); have WD := am (WB.out.trans hw); clear hx hk hw; (try dsimp only)))
          go_ret
          exact ⟨rfl, BXD.out, KD.out, WD.out⟩
         ·have d2 : ((rd_T37 l i).f0 != 2) = true := bne_iff_ne.mpr (by omega)
          have d3 : ((rd_T37 l i).f0 != 3) = false := bne_eq_false_iff_eq.mpr c4
          clear c4
          go_wp2_with (first | ((with_reducible refine (impl_stmtValid.callsP k1 (ad.add (i.toNat * 8)) _ _ _ _ _ A5 c5 _ A6 _ c6 A7 _ c7 _ _ _ x0 x1 x2 x3 x4 x5 x6 x7 G5.out L5.out HT.out).mono ?_); rintro e wa ⟨rfl, hb⟩; have y0 := pw_cell_below hb x0; have y6 := pw_cell_below hb x6; have y7 := pw_cell_below hb x7; have BXA := am (blk_below HBQ.out hb); have KA := am (KeepBut.trans HKQ.out (KeepBut.of_below hb gc none) (.inl rfl)); have WA := am (HWQ.out.trans (hb.mono (Nat.le_of_lt (Nat.lt_of_le_of_lt HGB.out (blk_lt HBQ.out))))); have G6A := am (Kd.F_below G6.out hb); have G7A := am (Kd.F_below G7.out hb); clear hb; (try dsimp only)) | ((with_reducible refine (ih k1 (by have := HK.out; omega) A6 c6 _ boxes (wrap64 (blocks + 1)) cq gc B ok _ _ _ G6A.out L6.out HNO.out HGB.out BXA.out HP.out).mono ?_); rintro e wb ⟨rfl, hx, hk, hw⟩; have ne7 := am hk; have u7 := cell_keep hk y7 NE7.out; have G7B := am (Kd.F_step G7A.out (fun q hq hlt => hk.2 q hlt (fun e => HNO.out (e ▸ hq)) (by simp))); have BXB := am hx; have KB := am (KeepBut.trans KA.out hk (.inl rfl)); have WB := am (WA.out.trans hw); clear hx hk hw; (try dsimp only)) | ((with_reducible refine (ih k1 (by have := HK.out; omega) A7 c7 _ boxes (wrap64 (blocks + 1)) _ gc B ok _ _ _ G7B.out L7.out HNO.out HGB.out BXB.out HQ.out).mono ?_); rintro e wd ⟨rfl, hx, hk, hw⟩; have BXD := am hx; have KD := am (KeepBut.trans KB.out hk (.inl rfl)); have WD := am (WB.out.trans hw); clear hx hk hw; (try dsimp only)))
          go_ret
          exact ⟨rfl, BXD.out, KD.out, WD.out⟩
        | true =>
         rw [if_pos rfl] at H
         have H' := am H
         clear H
         rcases c4 with c4 | c4
         ·have d2 : ((rd_T37 l i).f0 != 2) = false := bne_eq_false_iff_eq.mpr c4
          clear c4
          go_wp2_with (first | ((with_reducible refine (impl_stmtValid.callsP k1 (ad.add (i.toNat * 8)) _ _ _ _ _ A5 c5 _ A6 _ c6 A7 _ c7 _ _ _ x0 x1 x2 x3 x4 x5 x6 x7 G5.out L5.out HT.out).mono ?_); rintro e wa ⟨rfl, hb⟩; have y0 := pw_cell_below hb x0; have y6 := pw_cell_below hb x6; have y7 := pw_cell_below hb x7; have BXA := am (blk_below HBQ.out hb); have KA := am (KeepBut.trans HKQ.out (KeepBut.of_below hb gc none) (.inl rfl)); have WA := am (HWQ.out.trans (hb.mono (Nat.le_of_lt (Nat.lt_of_le_of_lt HGB.out (blk_lt HBQ.out))))); have G6A := am (Kd.F_below G6.out hb); have G7A := am (Kd.F_below G7.out hb); clear hb; (try dsimp only)) | ((with_reducible refine (ih k1 (by have := HK.out; omega) A6 c6 _ boxes (wrap64 (blocks + 1)) cq gc B ok _ _ _ G6A.out L6.out HNO.out HGB.out BXA.out HP.out).mono ?_); rintro e wb ⟨rfl, hx, hk, hw⟩; have ne7 := am hk; have u7 := cell_keep hk y7 NE7.out; have G7B := am (Kd.F_step G7A.out (fun q hq hlt => hk.2 q hlt (fun e => HNO.out (e ▸ hq)) (by simp))); have BXB := am hx; have KB := am (KeepBut.trans KA.out hk (.inl rfl)); have WB := am (WA.out.trans hw); clear hx hk hw; (try dsimp only)) | ((with_reducible refine (ih k1 (by have := HK.out; omega) A7 c7 _ boxes (wrap64 (blocks + 1)) _ gc B ok _ _ _ G7B.out L7.out HNO.out HGB.out BXB.out HQ.out).mono ?_); rintro e wd ⟨rfl, hx, hk, hw⟩; have BXD := am hx; have KD := am (KeepBut.trans KB.out hk (.inl rfl)); have WD := am (WB.out.trans hw); clear hx hk hw; (try dsimp only)))
          go_roundg k1
          case measure => have := HK.out; omega
          case rel => exact ⟨wrap64 (i + 1), c2_, (by first | rfl | (simp; done) | (simp [*]; done)), H', ⟨by have := HK.out; omega⟩, BXD, KD, WD⟩
         ·have d2 : ((rd_T37 l i).f0 != 2) = true := bne_iff_ne.mpr (by omega)
          have d3 : ((rd_T37 l i).f0 != 3) = false := bne_eq_false_iff_eq.mpr c4
          clear c4
          go_wp2_with (first | ((with_reducible refine (impl_stmtValid.callsP k1 (ad.add (i.toNat * 8)) _ _ _ _ _ A5 c5 _ A6 _ c6 A7 _ c7 _ _ _ x0 x1 x2 x3 x4 x5 x6 x7 G5.out L5.out HT.out).mono ?_); rintro e wa ⟨rfl, hb⟩; have y0 := pw_cell_below hb x0; have y6 := pw_cell_below hb x6; have y7 := pw_cell_below hb x7; have BXA := am (blk_below HBQ.out hb); have KA := am (KeepBut.trans HKQ.out (KeepBut.of_below hb gc none) (.inl rfl)); have WA := am (HWQ.out.trans (hb.mono (Nat.le_of_lt (Nat.lt_of_le_of_lt HGB.out (blk_lt HBQ.out))))); have G6A := am (Kd.F_below G6.out hb); have G7A := am (Kd.F_below G7.out hb); clear hb; (try dsimp only)) | ((with_reducible refine (ih k1 (by have := HK.out; omega) A6 c6 _ boxes (wrap64 (blocks + 1)) cq gc B ok _ _ _ G6A.out L6.out HNO.out HGB.out BXA.out HP.out).mono ?_); rintro e wb ⟨rfl, hx, hk, hw⟩; have ne7 := am hk; have u7 := cell_keep hk y7 NE7.out; have G7B := am (Kd.F_step G7A.out (fun q hq hlt => hk.2 q hlt (fun e => HNO.out (e ▸ hq)) (by simp))); have BXB := am hx; have KB := am (KeepBut.trans KA.out hk (.inl rfl)); have WB := am (WA.out.trans hw); clear hx hk hw; (try dsimp only)) | ((with_reducible refine (ih k1 (by have := HK.out; omega) A7 c7 _ boxes (wrap64 (blocks + 1)) _ gc B ok _ _ _ G7B.out L7.out HNO.out HGB.out BXB.out HQ.out).mono ?_); rintro e wd ⟨rfl, hx, hk, hw⟩; have BXD := am hx; have KD := am (KeepBut.trans KB.out hk (.inl rfl)); have WD := am (WB.out.trans hw); clear hx hk hw; (try dsimp only)))
          go_roundg k1
          case measure => have := HK.out; omega
          case rel => exact ⟨wrap64 (i + 1), c2_, (by first | rfl | (simp; done) | (simp [*]; done)), H', ⟨by have := HK.out; omega⟩, BXD, KD, WD⟩
      rw [if_neg c4] at H
      have d2 : ((rd_T37 l i).f0 != 2) = true := bne_iff_ne.mpr (fun e => c4 (.inl e))
      have d3 : ((rd_T37 l i).f0 != 3) = true := bne_iff_ne.mpr (fun e => c4 (.inr e))
      have H' := am H
      clear H c3 c4
      go_wp2_with (first | ((with_reducible refine (impl_stmtValid.callsP k1 (ad.add (i.toNat * 8)) _ _ _ _ _ A5 c5 _ A6 _ c6 A7 _ c7 _ _ _ x0 x1 x2 x3 x4 x5 x6 x7 G5.out L5.out HT.out).mono ?_); rintro e wa ⟨rfl, hb⟩; have y0 := pw_cell_below hb x0; have y6 := pw_cell_below hb x6; have y7 := pw_cell_below hb x7; have BXA := am (blk_below HBQ.out hb); have KA := am (KeepBut.trans HKQ.out (KeepBut.of_below hb gc none) (.inl rfl)); have WA := am (HWQ.out.trans (hb.mono (Nat.le_of_lt (Nat.lt_of_le_of_lt HGB.out (blk_lt HBQ.out))))); have G6A := am (Kd.F_below G6.out hb); have G7A := am (Kd.F_below G7.out hb); clear hb; (try dsimp only)))
      go_roundg k1
      case measure => have := HK.out; omega
      case rel => exact ⟨wrap64 (i + 1), cq, (by first | rfl | (simp; done) | (simp [*]; done)), H', ⟨by have := HK.out; omega⟩, BXA, KA, WA⟩
    rw [if_neg c2] at H
    exact absurd H (by simp)
   rw [if_neg c1] at H
   have c1b : decide (i < (l.length : Int)) = false := decide_eq_false c1
   have h1 := Option.some.inj H
   injection h1 with h1 h2
   subst h1
   subst h2
   clear H
   go_wp2
   go_ret
   exact ⟨rfl, HBQ.out, HKQ.out, HWQ.out⟩
theorem impl_stmtsValid.mono : ∀ l0 a1 k, LeO (impl_stmtsValid.f k l0 a1) (impl_stmtsValid.f (k + 1) l0 a1) := by
 intro l0 a1 k
 unfold impl_stmtsValid.f
 exact LeO.bind (impl_blockValid.mono _ _ _ _ _) (fun _ => LeO.refl _)
theorem impl_stmtsValid.calls (k : Nat) (A0 : Option Addr) (c0 : Nat) (l0 : List (S37)) (a1 : Int) (r : Bool) (w : World) (hr0 : Kd.C k37 w A0 l0.length l0) (hc0 : l0.length ≤ c0) (h : impl_stmtsValid.f k l0 a1 = some r) :
  Calls Try.prog 32 #[.slice A0 l0.length c0, .int .i64 a1] w fun e w' => e = .returned (.bool r) ∧ Below w.heap.size w w' := by
 unfold impl_stmtsValid.f at h
 replace h := Option.bind_eq_some_iff.mp h
 obtain ⟨⟨r', cnt'⟩, hv, h⟩ := h
 obtain rfl := Option.some.inj h
 have HV := am hv
 have HF := am (Kd.C_F k37_heap hr0)
 have HC0 := am hc0
 clear hr0 hc0 h hv
 go_enter Try.func32, Try.ntmps32
 go_upto_region 2 with (first | ((with_reducible refine gate_dst (N := 5) rfl ?_); refine box_event (N := 5) ?hg ?hd (cs := #[.int .i64 0]) (t := 3) ?hr ?_; (case hd => rfl); (case hg => rfl); (case hr => first | (go_simp; done) | (go_simp; rfl)); intro gb hg w1 hbox hb; have z0 : w1.cell? ⟨gb, 0, none⟩ = some (.int .i64 0) := blk_cell hbox 0; have f0 := blk_frozen hbox 0; have HG := am (Nat.le_of_eq hg.symm); have HBX := am (blk_put (cs' := #[.int .i64 0]) hbox 0 (.int .i64 0) rfl); have HB := am (below_set (j := 0) (v := .int .i64 0) hb (Nat.le_of_eq hg.symm)); clear hbox hb hg) | fail)
 go_wp2_with (first | ((with_reducible refine (impl_blockValid.callsP k A0 c0 l0 a1 0 0 _ w.heap.size (fun q => q < w.heap.size) r' cnt' _ (Kd.F_below HF.out HB.out) HC0.out (Nat.not_lt.mpr HG.out) HG.out HBX.out HV.out).mono ?_); rintro e w2 ⟨rfl, _, _, hw⟩; have HW := am (HB.out.trans hw); clear hw; (try dsimp only)) | fail)
 go_ret
 exact ⟨rfl, HW.out⟩
theorem impl_ProgramValid.mono_l : ∀ k, (∀ y0 y1 y2, LeO (impl_ProgramValid.j0 k y0 y1 y2) (impl_ProgramValid.j0 (k + 1) y0 y1 y2)) ∧ (∀ y0 y1 y2 y3 y4, LeO (impl_ProgramValid.l0 k y0 y1 y2 y3 y4) (impl_ProgramValid.l0 (k + 1) y0 y1 y2 y3 y4))
 | 0 => ⟨fun _ _ _ r h => by simp [impl_ProgramValid.j0] at h, fun _ _ _ _ _ r h => by simp [impl_ProgramValid.l0] at h⟩
 | k + 1 => by
  obtain ⟨ih0, ih1⟩ := impl_ProgramValid.mono_l k
  refine ⟨?_, ?_⟩
  ·intro y0 y1 y2
   unfold impl_ProgramValid.j0
   repeat' first
   | (with_reducible exact ih0 _ _ _)
   | (with_reducible exact ih1 _ _ _ _ _)
   | (with_reducible exact impl_roomsValid.mono _ _)
   | (with_reducible exact impl_stmtsValid.mono _ _ _)
   | (with_reducible exact LeO.refl _)
   | (with_reducible exact LeO.none _)
   | (with_reducible refine LeO.ite ?_ ?_)
   | (with_reducible refine LeO.bind ?_ (fun _ => ?_))
  ·intro y0 y1 y2 y3 y4
   unfold impl_ProgramValid.l0
   repeat' first
   | (with_reducible exact ih0 _ _ _)
   | (with_reducible exact ih1 _ _ _ _ _)
   | (with_reducible exact impl_roomsValid.mono _ _)
   | (with_reducible exact impl_stmtsValid.mono _ _ _)
   | (with_reducible exact LeO.refl _)
   | (with_reducible exact LeO.none _)
   | (with_reducible refine LeO.ite ?_ ?_)
   | (with_reducible refine LeO.bind ?_ (fun _ => ?_))
theorem impl_ProgramValid.mono : ∀ a0 a1 k, LeO (impl_ProgramValid.f k a0 a1) (impl_ProgramValid.f (k + 1) a0 a1) := by
 intro a0 a1 k
 obtain ⟨ih0, ih1⟩ := impl_ProgramValid.mono_l k
 unfold impl_ProgramValid.f
 repeat' first
   | (with_reducible exact ih0 _ _ _)
   | (with_reducible exact ih1 _ _ _ _ _)
   | (with_reducible exact impl_roomsValid.mono _ _)
   | (with_reducible exact impl_stmtsValid.mono _ _ _)
   | (with_reducible exact LeO.refl _)
   | (with_reducible exact LeO.none _)
   | (with_reducible refine LeO.ite ?_ ?_)
   | (with_reducible refine LeO.bind ?_ (fun _ => ?_))
theorem impl_ProgramValid.calls (k : Nat) (A0_0 : Option Addr) (c0_0 : Nat) (l0_0 : List Int) (A0_1 : Option Addr) (c0_1 : Nat) (l0_1 : List (List (S37))) (r : Bool) (w : World) (hr0_0 : Kd.C (Kd.int .i64) w A0_0 l0_0.length l0_0) (hc0_0 : l0_0.length ≤ c0_0) (hr0_1 : Kd.C (Kd.slice 37 k37) w A0_1 l0_1.length l0_1) (hc0_1 : l0_1.length ≤ c0_1) (h : impl_ProgramValid.f k l0_0 l0_1 = some r) :
  Calls Try.prog 14 #[.agg #[.slice A0_0 l0_0.length c0_0, .slice A0_1 l0_1.length c0_1]] w fun e w' => e = .returned (.bool r) ∧ Below w.heap.size w w' := by
 have hu26 := Try.underlying26
 have HR0_0 := am hr0_0
 have HC0_0 := am hc0_0
 clear hr0_0 hc0_0
 have HR0_1 := am hr0_1
 have HC0_1 := am hc0_1
 clear hr0_1 hc0_1
 have HB := am (Below.refl w.heap.size w)
 have H : ((impl_roomsValid.f k l0_0).bind fun t547 => (if t547 = true then (if (l0_1.length : Int) < 1 then (impl_ProgramValid.j0 k true l0_0 l0_1) else (impl_ProgramValid.j0 k (decide ((l0_1.length : Int) > 3)) l0_0 l0_1)) else (impl_ProgramValid.j0 k true l0_0 l0_1))) = some r := h
 clear h
 have HC2 := am H
 clear H
 go_enter Try.func14, Try.ntmps14
 go_upto_region 1 with (first | ((with_reducible refine gate_dst (N := 1) rfl ?_); (try (refine gate_guard (by rfl) ?_; dsimp only)); refine box_event ?hg (N := 1) ?hd (cs := #[.slice A0_0 l0_0.length c0_0, .slice A0_1 l0_1.length c0_1]) (t := 26) ?hr ?_; (case hd => rfl); (case hg => rfl); (case hr => first | (go_simp; done) | (go_simp; rfl)); intro gb546 hg w3 hbox hb; have n0_ := am (below_step ab2_ hb); have n1_ := am (hbox); have n2_ := am ((by rw [hg]; exact (below_size ab2_) : w.heap.size ≤ gb546)); have n3_ := am ((by rw [hg]; exact (below_size ab2_) : w.heap.size ≤ gb546)); clear HB; have HB := n0_; have BK546 := n1_; have GW546 := n2_; have GE546 := n3_; clear n0_ n1_ n2_ n3_ hb hbox hg))
 (try simp only [Act.put, List.setIfInBounds_toArray, List.set_cons_zero, List.set_cons_succ])
 go_cut [20] (fun v20 wc => ∃ (kq : Nat) (x20_1 : Bool), v20 = .bool x20_1 ∧ Aside0 (impl_ProgramValid.j0 kq x20_1 l0_0 l0_1 = some r) ∧ Aside0 (kq ≤ k) ∧ Aside0 (wc.heap[gb546]? = some (.cells #[(.slice A0_0 l0_0.length c0_0), (.slice A0_1 l0_1.length c0_1)] 26 (0, 0))) ∧ Aside0 (Below w.heap.size w wc))
 case first =>
  have H := HC2.out
  clear HC2
  obtain ⟨t547, A40, H⟩ := bsm H
  (try dsimp only at H)
  have A4 := am A40
  clear A40
  by_cases c5 : t547 = true
  ·subst c5
   rw [if_pos rfl] at H
   by_cases c6 : (l0_1.length : Int) < 1
   ·rw [if_pos c6] at H
    have c6b0 : decide ((l0_1.length : Int) < 1) = true := decide_eq_true c6
    have c6b1 : decide (l0_1.length < 1) = true := decide_eq_true (by omega)
    clear c6
    (first | rw [c6b0] | (simp only [i64_w, i32_w]; rw [c6b0]) | skip)
    have H' := am H
    clear H
    obtain ⟨hcz7_0, hcz7_1, hfz7_0, hfz7_1⟩ := bcf2_ BK546.out
    go_wp2_with (first | ((with_reducible refine gate_callee (f := 31) rfl ?_); refine goesL_ (some 7) rfl rfl Try.func31 (by kernel_rfl) rfl #[.slice A0_0 l0_0.length c0_0] rfl ab1_ ?_; (with_reducible refine (impl_roomsValid.calls k _ _ l0_0 true _ ?side1 ?side2 A4.out).mono ?_); (case side1 => repeat (first | exact (Kd.C_below HR0_0.out HB.out) | (with_reducible refine Kd.C_alloc ?_ _) | (with_reducible refine Kd.C_drewN ?_ _) | (with_reducible refine Kd.C_drew ?_))); (case side2 => exact HC0_0.out); rintro e w' ⟨rfl, ⟨nd, rfl⟩⟩; refine ⟨_, rfl, ?_⟩))
    go_meet
    case rel => exact ⟨_, (true), (by first | rfl | (simp; done) | (simp [*]; done)), H', ⟨by first | omega | exact Nat.le_refl _⟩, ⟨by (with_reducible repeat (first | refine blk_drewN ?_ _ | refine blk_drew ?_ | refine blk_alloc ?_ _)); exact BK546.out⟩, ⟨ab33_⟩⟩
   rw [if_neg c6] at H
   have c6b0 : decide ((l0_1.length : Int) < 1) = false := decide_eq_false c6
   have c6b1 : decide (l0_1.length < 1) = false := decide_eq_false (by omega)
   clear c6
   (first | rw [c6b0] | (simp only [i64_w, i32_w]; rw [c6b0]) | skip)
   have H' := am H
   clear H
   obtain ⟨hcz8_0, hcz8_1, hfz8_0, hfz8_1⟩ := bcf2_ BK546.out
   go_wp2_with (first | ((with_reducible refine gate_callee (f := 31) rfl ?_); refine goesL_ (some 7) rfl rfl Try.func31 (by kernel_rfl) rfl #[.slice A0_0 l0_0.length c0_0] rfl ab1_ ?_; (with_reducible refine (impl_roomsValid.calls k _ _ l0_0 true _ ?side1 ?side2 A4.out).mono ?_); (case side1 => repeat (first | exact (Kd.C_below HR0_0.out HB.out) | (with_reducible refine Kd.C_alloc ?_ _) | (with_reducible refine Kd.C_drewN ?_ _) | (with_reducible refine Kd.C_drew ?_))); (case side2 => exact HC0_0.out); rintro e w' ⟨rfl, ⟨nd, rfl⟩⟩; refine ⟨_, rfl, ?_⟩))
   go_meet
   case rel => exact ⟨_, (decide ((l0_1.length : Int) > 3)), (by first | rfl | (simp; done) | (simp [*]; done)), H', ⟨by first | omega | exact Nat.le_refl _⟩, ⟨by (with_reducible repeat (first | refine blk_drewN ?_ _ | refine blk_drew ?_ | refine blk_alloc ?_ _)); exact BK546.out⟩, ⟨ab33_⟩⟩
  replace c5 := Bool.eq_false_iff.mpr c5
  subst c5
  rw [if_neg (show ¬ (false = true) by decide)] at H
  have H' := am H
  clear H
  obtain ⟨hcz9_0, hcz9_1, hfz9_0, hfz9_1⟩ := bcf2_ BK546.out
  go_wp2_with (first | ((with_reducible refine gate_callee (f := 31) rfl ?_); refine goesL_ (some 7) rfl rfl Try.func31 (by kernel_rfl) rfl #[.slice A0_0 l0_0.length c0_0] rfl ab1_ ?_; (with_reducible refine (impl_roomsValid.calls k _ _ l0_0 false _ ?side1 ?side2 A4.out).mono ?_); (case side1 => repeat (first | exact (Kd.C_below HR0_0.out HB.out) | (with_reducible refine Kd.C_alloc ?_ _) | (with_reducible refine Kd.C_drewN ?_ _) | (with_reducible refine Kd.C_drew ?_))); (case side2 => exact HC0_0.out); rintro e w' ⟨rfl, ⟨nd, rfl⟩⟩; refine ⟨_, rfl, ?_⟩))
  go_meet
  case rel => exact ⟨_, (true), (by first | rfl | (simp; done) | (simp [*]; done)), H', ⟨by first | omega | exact Nat.le_refl _⟩, ⟨by (with_reducible repeat (first | refine blk_drewN ?_ _ | refine blk_drew ?_ | refine blk_alloc ?_ _)); exact BK546.out⟩, ⟨ab33_⟩⟩
 case rest =>
  clear HC2
  obtain ⟨kq, x20_1, rfl, HA, HJ1, BK546, HB⟩ := hcut
  cases kq with
  | zero => exact absurd HA.out (by simp [impl_ProgramValid.j0])
  | succ kj1 =>
   have H := HA.out
   clear HA
   simp only [impl_ProgramValid.j0] at H
   by_cases c10 : x20_1 = true
   ·subst c10
    rw [if_pos rfl] at H
    obtain rfl := Option.some.inj H
    go_wp2
    go_ret
    exact ⟨rr_, ab33_⟩
   replace c10 := Bool.eq_false_iff.mpr c10
   subst c10
   rw [if_neg (show ¬ (false = true) by decide)] at H
   have H' := am H
   clear H
   obtain ⟨hcz11_0, hcz11_1, hfz11_0, hfz11_1⟩ := bcf2_ BK546.out
   go_wp2
   go_loopg [24] kj1 (fun kq v24 w' => ∃ (x24_2 : Int), v24 = .int .i64 x24_2 ∧ Aside0 (impl_ProgramValid.l0 kq l0_1 (l0_1.length : Int) x24_2 l0_0 l0_1 = some r) ∧ Aside0 (kq ≤ kj1) ∧ Aside0 (w'.heap[gb546]? = some (.cells #[(.slice A0_0 l0_0.length c0_0), (.slice A0_1 l0_1.length c0_1)] 26 (0, 0))) ∧ Aside0 (Below w.heap.size w w'))
   case atStart => exact ⟨(0), (by first | rfl | (simp; done) | (simp [*]; done)), H', ⟨Nat.le_refl _⟩, ⟨by (with_reducible repeat (first | refine blk_drewN ?_ _ | refine blk_drew ?_ | refine blk_alloc ?_ _)); exact BK546.out⟩, ⟨ab33_⟩⟩
   case round =>
    clear H'
    try clear c10
    try clear hcz11_0
    try clear hcz11_1
    try clear hfz11_0
    try clear hfz11_1
    obtain ⟨x24_2, rfl, HA, HK2, BK546, HB⟩ := hrel
    cases gk with
    | zero => exact absurd HA.out (by simp [impl_ProgramValid.l0])
    | succ k2 =>
     have H := HA.out
     clear HA
     simp only [impl_ProgramValid.l0] at H
     by_cases c12 : x24_2 < (l0_1.length : Int)
     ·rw [if_pos c12] at H
      have c12b0 : decide (x24_2 < (l0_1.length : Int)) = true := decide_eq_true c12
      clear c12
      by_cases c13 : 0 ≤ x24_2
      ·rw [if_pos c13] at H
       have c13b0 : decide (0 ≤ x24_2) = true := decide_eq_true c13
       clear c13
       by_cases c14 : x24_2 < (l0_1.length : Int)
       ·rw [if_pos c14] at H
        have c14b0 : decide (x24_2 < (l0_1.length : Int)) = true := decide_eq_true c14
        clear c14
        obtain ⟨t549, A150, H⟩ := bsm H
        (try dsimp only at H)
        have A15 := am A150
        clear A150
        by_cases c16 : t549 = true
        ·subst c16
         rw [if_pos rfl] at H
         have H' := am H
         clear H
         have p548 : 0 ≤ (x24_2 : Int) := of_decide_eq_true (by first | (with_reducible assumption) | assumption)
         have q548 : x24_2 < (l0_1.length : Int) := of_decide_eq_true (by first | (with_reducible assumption) | assumption)
         obtain ⟨ad548, A548_0, c548_0, e548, hx548_0, hl548_0, hi548_0⟩ := at_L4 HR0_1.out x24_2 p548 q548
         cases e548
         replace hx548_0 := (HB.out.cell (World.block_lt_of_cell? w _ hx548_0)).trans hx548_0
         have HR548_0 := am hi548_0
         have HC548_0 := am hl548_0
         clear hi548_0 hl548_0
         replace p548 := eq_true p548
         replace q548 := eq_true q548
         obtain ⟨hcz17_0, hcz17_1, hfz17_0, hfz17_1⟩ := bcf2_ BK546.out
         go_wp2_with (first | ((with_reducible refine gate_callee (f := 32) rfl ?_); refine goesL_ (some 32) rfl rfl Try.func32 (by kernel_rfl) rfl #[.slice A548_0 (rd_L4 l0_1 x24_2).length c548_0, .int .i64 (l0_0.length : Int)] rfl ab1_ ?_; (with_reducible refine (impl_stmtsValid.calls k2 _ _ (rd_L4 l0_1 x24_2) (l0_0.length : Int) true _ ?side1 ?side2 A15.out).mono ?_); (case side1 => repeat (first | exact (Kd.C_below HR548_0.out HB.out) | (with_reducible refine Kd.C_alloc ?_ _) | (with_reducible refine Kd.C_drewN ?_ _) | (with_reducible refine Kd.C_drew ?_))); (case side2 => exact HC548_0.out); rintro e w18 ⟨rfl, hb⟩; refine ⟨_, rfl, ?_⟩; have n0_ := am (blk_below (g := gb546) (o := .cells #[.slice A0_0 l0_0.length c0_0, .slice (some ad548) l0_1.length c0_1] 26 (0, 0)) (aG_ BK546.out) hb); have n1_ := am (below_step ab33_ hb); clear BK546 HB; have BK546 := n0_; have HB := n1_; clear n0_ n1_; (try clear hb); (try clear hb2); (try clear hk); (try clear hi)))
         go_roundg k2
         case measure => have := HJ1.out; have := HK2.out; omega
         case rel => exact ⟨(wrap64 (x24_2 + 1)), (by first | rfl | (simp; done) | (simp [*]; done)), H', ⟨by have := HJ1.out; have := HK2.out; omega⟩, ⟨by (with_reducible repeat (first | refine blk_drewN ?_ _ | refine blk_drew ?_ | refine blk_alloc ?_ _)); exact BK546.out⟩, ⟨ab33_⟩⟩
        replace c16 := Bool.eq_false_iff.mpr c16
        subst c16
        rw [if_neg (show ¬ (false = true) by decide)] at H
        obtain rfl := Option.some.inj H
        have p548 : 0 ≤ (x24_2 : Int) := of_decide_eq_true (by first | (with_reducible assumption) | assumption)
        have q548 : x24_2 < (l0_1.length : Int) := of_decide_eq_true (by first | (with_reducible assumption) | assumption)
        obtain ⟨ad548, A548_0, c548_0, e548, hx548_0, hl548_0, hi548_0⟩ := at_L4 HR0_1.out x24_2 p548 q548
        cases e548
        replace hx548_0 := (HB.out.cell (World.block_lt_of_cell? w _ hx548_0)).trans hx548_0
        have HR548_0 := am hi548_0
        have HC548_0 := am hl548_0
        clear hi548_0 hl548_0
        replace p548 := eq_true p548
        replace q548 := eq_true q548
        obtain ⟨hcz19_0, hcz19_1, hfz19_0, hfz19_1⟩ := bcf2_ BK546.out
        go_wp2_with (first | ((with_reducible refine gate_callee (f := 32) rfl ?_); refine goesL_ (some 32) rfl rfl Try.func32 (by kernel_rfl) rfl #[.slice A548_0 (rd_L4 l0_1 x24_2).length c548_0, .int .i64 (l0_0.length : Int)] rfl ab1_ ?_; (with_reducible refine (impl_stmtsValid.calls k2 _ _ (rd_L4 l0_1 x24_2) (l0_0.length : Int) false _ ?side1 ?side2 A15.out).mono ?_); (case side1 => repeat (first | exact (Kd.C_below HR548_0.out HB.out) | (with_reducible refine Kd.C_alloc ?_ _) | (with_reducible refine Kd.C_drewN ?_ _) | (with_reducible refine Kd.C_drew ?_))); (case side2 => exact HC548_0.out); rintro e w20 ⟨rfl, hb⟩; refine ⟨_, rfl, ?_⟩; have n0_ := am (blk_below (g := gb546) (o := .cells #[.slice A0_0 l0_0.length c0_0, .slice (some ad548) l0_1.length c0_1] 26 (0, 0)) (aG_ BK546.out) hb); have n1_ := am (below_step ab33_ hb); clear BK546 HB; have BK546 := n0_; have HB := n1_; clear n0_ n1_; (try clear hb); (try clear hb2); (try clear hk); (try clear hi)))
        go_ret
        exact ⟨rr_, ab33_⟩
       rw [if_neg c14] at H
       exact absurd H (by simp)
      rw [if_neg c13] at H
      exact absurd H (by simp)
     rw [if_neg c12] at H
     have c12b0 : decide (x24_2 < (l0_1.length : Int)) = false := decide_eq_false c12
     clear c12
     obtain rfl := Option.some.inj H
     go_wp2
     go_ret
     exact ⟨rr_, ab33_⟩
theorem laws_number.calls (a0 : Int) (r1 : Int) (r2 : Int) (r3 : List (S34)) (w : World) (h : laws_number.f a0 = some (r1, r2, r3)) :
  Calls Try.prog 16 #[.int .i64 a0] w fun e w' => ∃ v2_ : Value, e = .returned (.agg #[.int .i64 r1, .int .i64 r2, v2_]) ∧ Kd.R k34 34 w' w.heap.size (fun _ => True) v2_ r3 ∧ Below w.heap.size w w' := by
 have hu34 := Try.underlying34
 have HB := am (Below.refl w.heap.size w)
 have H : (some (0, a0, ([] : List (S34)))) = some (r1, r2, r3) := h
 clear h
 simp only [Option.some.injEq, Prod.mk.injEq] at H
 obtain ⟨rfl, rfl, rfl⟩ := H
 go_enter Try.func16, Try.ntmps16
 go_wp2_with (first | ((with_reducible refine gate_dst (N := 2) rfl ?_); refine box_event ?hg (N := 2) ?hd (cs := #[.int .i64 0, .int .i64 0, .slice none 0 0]) (t := 34) ?hr ?_; (case hd => rfl); (case hg => rfl); (case hr => first | (go_simp; done) | (go_simp; rfl)); intro gb622 hg w2 hbox hb; have n0_ := am (below_step ab2_ hb); have n1_ := am (hbox); have n2_ := am ((by rw [hg]; exact (below_size ab2_) : w.heap.size ≤ gb622)); have n3_ := am ((by rw [hg]; exact (below_size ab2_) : w.heap.size ≤ gb622)); clear HB; have HB := n0_; have BK622 := n1_; have GW622 := n2_; have GE622 := n3_; clear n0_ n1_ n2_ n3_ hb hbox hg; obtain ⟨hcz3_0, hcz3_1, hcz3_2, hfz3_0, hfz3_1, hfz3_2⟩ := bcf3_ BK622.out))
 refine bodyPost_ret (results_cell_row rfl _ _ gb622 34 #[.int .i64 0, .int .i64 a0, .slice none 0 0] (0, 0) _ rfl (by (with_reducible repeat (first | refine blk_drewN ?_ _ | refine blk_drew ?_ | refine blk_alloc ?_ _)); refine blk_put (cs := #[.int .i64 0, .int .i64 a0, .slice none 0 0]) ?_ 2 _ rfl; (with_reducible repeat (first | refine blk_drewN ?_ _ | refine blk_drew ?_ | refine blk_alloc ?_ _)); refine blk_put (cs := #[.int .i64 0, .int .i64 0, .slice none 0 0]) ?_ 1 _ rfl; (with_reducible repeat (first | refine blk_drewN ?_ _ | refine blk_drew ?_ | refine blk_alloc ?_ _)); refine blk_put (cs := #[.int .i64 0, .int .i64 0, .slice none 0 0]) ?_ 0 _ rfl; (with_reducible repeat (first | refine blk_drewN ?_ _ | refine blk_drew ?_ | refine blk_alloc ?_ _)); exact BK622.out) Try.underlying34 rfl (by kernel_rfl)) rfl ?_
 exact ⟨_, ab14_, by first | exact Kd.R_nil _ _ _ _ _ | exact Kd.N_nil _ _ _ _ _ | exact Kd.V_nil _ _ _ _ _ | exact Kd.Q_nil _ _ _ _ _ | exact Kd.S_nil _ _ _ _ _, by repeat (first | (with_reducible first | exact HB.out | apply below_alloc | apply pw_below_drewN | apply below_drew1 | refine below_set ?_ GE622.out) | exact HB.out)⟩
theorem spec_l92Rooms.mono_l : ∀ k, (∀ y0 y1 y2 y3 y4, LeO (spec_l92Rooms.l0 k y0 y1 y2 y3 y4) (spec_l92Rooms.l0 (k + 1) y0 y1 y2 y3 y4))
 | 0 => fun _ _ _ _ _ r h => by simp [spec_l92Rooms.l0] at h
 | k + 1 => by
  have ih0 := spec_l92Rooms.mono_l k
  ·intro y0 y1 y2 y3 y4
   unfold spec_l92Rooms.l0
   repeat' first
   | (with_reducible exact ih0 _ _ _ _ _)
   | (with_reducible exact spec_l6Rd_pick.mono _ _ _ _)
   | (with_reducible exact LeO.refl _)
   | (with_reducible exact LeO.none _)
   | (with_reducible refine LeO.ite ?_ ?_)
   | (with_reducible refine LeO.bind ?_ (fun _ => ?_))
theorem spec_l92Rooms.mono : ∀ a0 a1 k, LeO (spec_l92Rooms.f k a0 a1) (spec_l92Rooms.f (k + 1) a0 a1) := by
 intro a0 a1 k
 have ih0 := spec_l92Rooms.mono_l k
 unfold spec_l92Rooms.f
 repeat' first
   | (with_reducible exact ih0 _ _ _ _ _)
   | (with_reducible exact spec_l6Rd_pick.mono _ _ _ _)
   | (with_reducible exact LeO.refl _)
   | (with_reducible exact LeO.none _)
   | (with_reducible refine LeO.ite ?_ ?_)
   | (with_reducible refine LeO.bind ?_ (fun _ => ?_))
theorem spec_l92Rooms.calls (k : Nat) (g : Nat) (s0_0 : List Int) (s0_1 : Int) (r1 : List Int) (r2 : Int) (w0 w : World) (hI : IsS66 w0 w g s0_0 s0_1) (hB : Below w0.heap.size w0 w) (h : spec_l92Rooms.f k s0_0 s0_1 = some (r1, r2)) :
  Calls Try.prog 60 #[.pointer (some ⟨g, 0, none⟩)] w fun e w' => ∃ v0_ : Value, e = .returned (v0_) ∧ Kd.R (Kd.int .i64) 3 w' w.heap.size (fun _ => True) v0_ r1 ∧ IsS66 w0 w' g s0_0 r2 ∧ Below w0.heap.size w0 w' ∧ KeepBut w w' g none := by
 have HI0 := am hI
 have HK := am (KeepBut.refl w g none)
 have HL := am hB.size
 clear hI
 have HW0 := am hB.size
 have HB := am hB
 clear hB
 have H : ((some (([0, 1, 1, 2, 2, 3] : List Int) : List Int)).bind fun y107 => ((spec_l6Rd_pick.f k s0_0 s0_1 6).bind fun bt110 => (if 0 ≤ bt110.1 then (if bt110.1 < (y107.length : Int) then (spec_l92Rooms.l0 k (([] : List Int)) (rd y107 bt110.1) 0 s0_0 bt110.2) else (none)) else (none)))) = some (r1, r2) := h
 clear h
 obtain ⟨y104, hy104⟩ : ∃ y_ : List Int, y_ = (([] : List Int)) := ⟨_, rfl⟩
 replace H : ((some (([0, 1, 1, 2, 2, 3] : List Int) : List Int)).bind fun y107 => ((spec_l6Rd_pick.f k s0_0 s0_1 6).bind fun bt110 => (if 0 ≤ bt110.1 then (if bt110.1 < (y107.length : Int) then (spec_l92Rooms.l0 k y104 (rd y107 bt110.1) 0 s0_0 bt110.2) else (none)) else (none)))) = some (r1, r2) := by first | (rw [hy104]; with_reducible exact H) | (have H2_ := (Option.bind_some _ _).symm.trans H; rw [hy104]; with_reducible exact H2_) | (have H2_ := (Option.bind_some _ _).symm.trans H; with_reducible exact H2_) | with_reducible exact H | (rw [hy104]; exact H) | exact H
 have Ny104 := am hy104
 clear hy104
 obtain ⟨y107, hy107⟩ : ∃ y_ : List Int, y_ = (([0, 1, 1, 2, 2, 3] : List Int)) := ⟨_, rfl⟩
 replace H : ((spec_l6Rd_pick.f k s0_0 s0_1 6).bind fun bt110 => (if 0 ≤ bt110.1 then (if bt110.1 < (y107.length : Int) then (spec_l92Rooms.l0 k y104 (rd y107 bt110.1) 0 s0_0 bt110.2) else (none)) else (none))) = some (r1, r2) := by first | (rw [hy107]; with_reducible exact H) | (have H2_ := (Option.bind_some _ _).symm.trans H; rw [hy107]; with_reducible exact H2_) | (have H2_ := (Option.bind_some _ _).symm.trans H; with_reducible exact H2_) | with_reducible exact H | (rw [hy107]; exact H) | exact H
 have Ny107 := am hy107
 clear hy107
 obtain ⟨⟨t110, t111⟩, A20, H⟩ := bsm H
 (try dsimp only at H)
 have A2 := am A20
 clear A20
 by_cases c3 : 0 ≤ t110
 ·rw [if_pos c3] at H
  have c3b0 : decide (0 ≤ t110) = true := decide_eq_true c3
  clear c3
  by_cases c4 : t110 < (y107.length : Int)
  ·rw [if_pos c4] at H
   have c4b0 : decide (t110 < (y107.length : Int)) = true := decide_eq_true c4
   clear c4
   have H' := am H
   clear H
   go_enter Try.func60, Try.ntmps60
   go_wp2_with (first | ((with_reducible refine gate_dst (N := 6) rfl ?_); refine Kd.R_lit (Kd.int .i64) _ 3 ?hg (N := 6) ?hd (xs := ([] : List Int)) (inner := []) (ok := fun _ => True) (okp := fun _ => True) ?hr ?hp (fun _ hk => hk) trivial (Below.refl _ _) (Nat.le_refl _) (by simp) ?_; (case hd => rfl); (case hg => rfl); (case hr => first | (go_simp; done) | (go_simp; rfl)); (case hp => exact (Reps.none _ _)); intro v105 w5 ho6 hb hg_ hnew_; clear hg_ hnew_; (first | rw [← Ny104.out] at ho6 | (simp only [Int.reduceToNat] at ho6; rw [← Ny104.out] at ho6)); have n0_ := am (Kd.R_lower ho6 (keep_size (w := w) (g := g) (row := none) ab3_)); have n1_ := am (IsS66.below ab4_ hb); have n2_ := am (KeepBut.trans ab3_ (KeepBut.of_below hb g none) (.inl rfl)); have n3_ := am (below_step ab5_ hb); clear HI0 HK HB; have HO106 := n0_; have HI0 := n1_; have HK := n2_; have HB := n3_; clear n0_ n1_ n2_ n3_ hb ho6) | ((with_reducible refine gate_dst (N := 7) rfl ?_); refine Kd.R_lit (Kd.int .i64) _ 3 ?hg (N := 7) ?hd (xs := ([0, 1, 1, 2, 2, 3] : List Int)) (inner := [.int .i64 0, .int .i64 1, .int .i64 1, .int .i64 2, .int .i64 2, .int .i64 3]) (ok := fun _ => True) (okp := fun _ => True) ?hr ?hp (fun _ hk => hk) trivial (Below.refl _ _) (Nat.le_refl _) (by simp) ?_; (case hd => rfl); (case hg => rfl); (case hr => first | (go_simp; done) | (go_simp; rfl)); (case hp => exact (Reps.one (show Kd.M (Kd.int .i64) _ _ _ 0 [.int .i64 0] from rfl) (Reps.one (show Kd.M (Kd.int .i64) _ _ _ 1 [.int .i64 1] from rfl) (Reps.one (show Kd.M (Kd.int .i64) _ _ _ 1 [.int .i64 1] from rfl) (Reps.one (show Kd.M (Kd.int .i64) _ _ _ 2 [.int .i64 2] from rfl) (Reps.one (show Kd.M (Kd.int .i64) _ _ _ 2 [.int .i64 2] from rfl) (Reps.one (show Kd.M (Kd.int .i64) _ _ _ 3 [.int .i64 3] from rfl) (Reps.none _ _)))))))); intro v108 w7 ho8 hb hg_ hnew_; clear hg_ hnew_; (first | rw [← Ny107.out] at ho8 | (simp only [Int.reduceToNat] at ho8; rw [← Ny107.out] at ho8)); have n0_ := am (Kd.R_elder' (aR_ HO106.out) (Kd.R_base ho8) hb); have n1_ := am (Kd.R_lower (Kd.R_new' ho8 (Kd.R_lt (aR_ HO106.out))) (keep_size (w := w) (g := g) (row := none) ab3_)); have n2_ := am (IsS66.below ab4_ hb); have n3_ := am (KeepBut.trans ab3_ (KeepBut.of_below hb g none) (.inl rfl)); have n4_ := am (below_step ab5_ hb); clear HO106 HI0 HK HB; have HO106 := n0_; have HO109 := n1_; have HI0 := n2_; have HK := n3_; have HB := n4_; clear n0_ n1_ n2_ n3_ n4_ hb ho8) | ((with_reducible refine gate_callee (f := 50) rfl ?_); refine goesL_ (some 9) rfl rfl Try.func50 (by kernel_rfl) rfl #[.pointer (some ⟨g, 0, none⟩), .int .i64 6] rfl ab1_ ?_; (with_reducible refine (spec_l6Rd_pick.calls k g s0_0 s0_1 6 t110 t111 w0 _ ?side1 ?side2 A2.out).mono ?_); (case side1 => exact ab4_); (case side2 => exact ab5_); rintro e w9 ⟨rfl, hi, hb, hk⟩; refine ⟨_, rfl, ?_⟩; have n0_ := am (Kd.R_mono (Kd.R_keep (IsS66.apart (show IsS66 w0 _ g s0_0 s0_1 from by repeat (first | (with_reducible first | exact HI0.out | apply IsS66.alloc | apply IsS66.drewN | apply IsS66.drew | apply IsS66.set_1) | exact HI0.out)) (aR_ HO106.out) (by decide)) hk (fun _ h => h.2)) (fun _ h => h.1)); have n1_ := am (Kd.R_mono (Kd.R_keep (IsS66.apart (show IsS66 w0 _ g s0_0 s0_1 from by repeat (first | (with_reducible first | exact HI0.out | apply IsS66.alloc | apply IsS66.drewN | apply IsS66.drew | apply IsS66.set_1) | exact HI0.out)) (aR_ HO109.out) (by decide)) hk (fun _ h => h.2)) (fun _ h => h.1)); have n2_ := am (KeepBut.trans ab3_ hk (.inl rfl)); have n3_ := am (hb); have n4_ := am (hi); clear HO106 HO109 HK HB HI0; have HO106 := n0_; have HO109 := n1_; have HK := n2_; have HB := n3_; have HI0 := n4_; clear n0_ n1_ n2_ n3_ n4_; (try clear hb); (try clear hb2); (try clear hk); (try clear hi); obtain ⟨Ao10, co10, eo10⟩ := Kd.R_slice HO109.out; subst eo10; have p112 : 0 ≤ (t110 : Int) := of_decide_eq_true (by first | (with_reducible assumption) | assumption); have q112 : t110 < (y107.length : Int) := of_decide_eq_true (by first | (with_reducible assumption) | assumption); obtain ⟨ad112, e112, hx112_0⟩ := Kd.at_int (Kd.R_reads' HO109.out).2.2 t110 p112 q112; cases e112; replace p112 := eq_true p112; replace q112 := eq_true q112))
   go_loopg [3, 5] k (fun kq v3 v5 w' => ∃ (x3_1 : List Int) (x5_1 : Int) (x1001_1 : Int), v5 = .int .i64 x5_1 ∧ Aside0 (spec_l92Rooms.l0 kq x3_1 (rd y107 t110) x5_1 s0_0 x1001_1 = some (r1, r2)) ∧ Aside0 (kq ≤ k) ∧ Aside0 (Kd.R (Kd.int .i64) 3 w' w.heap.size (fun _ => True) v3 x3_1) ∧ Aside0 (IsS66 w0 w' g s0_0 x1001_1) ∧ Aside0 (KeepBut w w' g none) ∧ Aside0 (Below w0.heap.size w0 w'))
   case atStart => exact ⟨(y104), (0), (t111), (by first | rfl | (simp; done) | (simp [*]; done)), H', ⟨Nat.le_refl _⟩, ⟨by (with_reducible repeat (first | apply Kd.R_alloc | apply Kd.R_drewN | apply Kd.R_drew)); exact Kd.R_mono HO106.out (fun _ hk => trivial)⟩, ⟨ab4_⟩, ⟨ab3_⟩, ⟨ab5_⟩⟩
   case round =>
    clear H'
    try clear c3
    try clear c3b0
    try clear c4
    try clear c4b0
    try clear hx112_0
    try clear p112
    try clear q112
    obtain ⟨x3_1, x5_1, x1001_1, rfl, HA, HK1, HO_3, HI0, HK, HB⟩ := hrel
    cases gk with
    | zero => exact absurd HA.out (by simp [spec_l92Rooms.l0])
    | succ k1 =>
     have H := HA.out
     clear HA
     simp only [spec_l92Rooms.l0] at H
     by_cases c11 : x5_1 < (rd y107 t110)
     ·rw [if_pos c11] at H
      have c11b0 : decide (x5_1 < (rd y107 t110)) = true := decide_eq_true c11
      clear c11
      obtain ⟨y113, hy113⟩ : ∃ y_ : List Int, y_ = (([1, 1, 2, 3, 4] : List Int)) := ⟨_, rfl⟩
      replace H : ((spec_l6Rd_pick.f k1 s0_0 x1001_1 5).bind fun bt116 => (if 0 ≤ bt116.1 then (if bt116.1 < (y113.length : Int) then (if x3_1.length < 17592186044416 then (spec_l92Rooms.l0 k1 (x3_1 ++ [rd y113 bt116.1]) (rd y107 t110) (wrap64 (x5_1 + 1)) s0_0 bt116.2) else (none)) else (none)) else (none))) = some (r1, r2) := by first | (rw [hy113]; with_reducible exact H) | (have H2_ := (Option.bind_some _ _).symm.trans H; rw [hy113]; with_reducible exact H2_) | (have H2_ := (Option.bind_some _ _).symm.trans H; with_reducible exact H2_) | with_reducible exact H | (rw [hy113]; exact H) | exact H
      have Ny113 := am hy113
      clear hy113
      obtain ⟨⟨t116, t117⟩, A120, H⟩ := bsm H
      (try dsimp only at H)
      have A12 := am A120
      clear A120
      by_cases c13 : 0 ≤ t116
      ·rw [if_pos c13] at H
       have c13b0 : decide (0 ≤ t116) = true := decide_eq_true c13
       clear c13
       by_cases c14 : t116 < (y113.length : Int)
       ·rw [if_pos c14] at H
        have c14b0 : decide (t116 < (y113.length : Int)) = true := decide_eq_true c14
        clear c14
        by_cases c15 : x3_1.length < 17592186044416
        ·rw [if_pos c15] at H
         have LMc15 := am c15
         clear c15
         obtain ⟨y119, hy119⟩ : ∃ y_ : List Int, y_ = (x3_1 ++ [rd y113 t116]) := ⟨_, rfl⟩
         replace H : (spec_l92Rooms.l0 k1 y119 (rd y107 t110) (wrap64 (x5_1 + 1)) s0_0 t117) = some (r1, r2) := by first | (rw [hy119]; with_reducible exact H) | (have H2_ := (Option.bind_some _ _).symm.trans H; rw [hy119]; with_reducible exact H2_) | (have H2_ := (Option.bind_some _ _).symm.trans H; with_reducible exact H2_) | with_reducible exact H | (rw [hy119]; exact H) | exact H
         have Ny119 := am hy119
         clear hy119
         have H' := am H
         clear H
         go_wp2_with (first | ((with_reducible refine gate_dst (N := 18) rfl ?_); refine Kd.R_lit (Kd.int .i64) _ 3 ?hg (N := 18) ?hd (xs := ([1, 1, 2, 3, 4] : List Int)) (inner := [.int .i64 1, .int .i64 1, .int .i64 2, .int .i64 3, .int .i64 4]) (ok := fun _ => True) (okp := fun _ => True) ?hr ?hp (fun _ hk => hk) trivial (Below.refl _ _) (Nat.le_refl _) (by simp) ?_; (case hd => rfl); (case hg => rfl); (case hr => first | (go_simp; done) | (go_simp; rfl)); (case hp => exact (Reps.one (show Kd.M (Kd.int .i64) _ _ _ 1 [.int .i64 1] from rfl) (Reps.one (show Kd.M (Kd.int .i64) _ _ _ 1 [.int .i64 1] from rfl) (Reps.one (show Kd.M (Kd.int .i64) _ _ _ 2 [.int .i64 2] from rfl) (Reps.one (show Kd.M (Kd.int .i64) _ _ _ 3 [.int .i64 3] from rfl) (Reps.one (show Kd.M (Kd.int .i64) _ _ _ 4 [.int .i64 4] from rfl) (Reps.none _ _))))))); intro v114 w16 ho17 hb hg_ hnew_; clear hg_ hnew_; (first | rw [← Ny113.out] at ho17 | (simp only [Int.reduceToNat] at ho17; rw [← Ny113.out] at ho17)); have n0_ := am (Kd.R_elder' (aR_ HO_3.out) (Kd.R_base ho17) hb); have n1_ := am (Kd.R_lower (Kd.R_new' ho17 (Kd.R_lt (aR_ HO_3.out))) (keep_size (w := w) (g := g) (row := none) ab3_)); have n2_ := am (IsS66.below ab4_ hb); have n3_ := am (KeepBut.trans ab3_ (KeepBut.of_below hb g none) (.inl rfl)); have n4_ := am (below_step ab5_ hb); clear HO_3 HI0 HK HB; have HO_3 := n0_; have HO115 := n1_; have HI0 := n2_; have HK := n3_; have HB := n4_; clear n0_ n1_ n2_ n3_ n4_ hb ho17) | ((with_reducible refine gate_callee (f := 50) rfl ?_); refine goesL_ (some 20) rfl rfl Try.func50 (by kernel_rfl) rfl #[.pointer (some ⟨g, 0, none⟩), .int .i64 5] rfl ab1_ ?_; (with_reducible refine (spec_l6Rd_pick.calls k1 g s0_0 x1001_1 5 t116 t117 w0 _ ?side1 ?side2 A12.out).mono ?_); (case side1 => exact ab4_); (case side2 => exact ab5_); rintro e w18 ⟨rfl, hi, hb, hk⟩; refine ⟨_, rfl, ?_⟩; have n0_ := am (Kd.R_mono (Kd.R_keep (IsS66.apart (show IsS66 w0 _ g s0_0 x1001_1 from by repeat (first | (with_reducible first | exact HI0.out | apply IsS66.alloc | apply IsS66.drewN | apply IsS66.drew | apply IsS66.set_1) | exact HI0.out)) (aR_ HO_3.out) (by decide)) hk (fun _ h => h.2)) (fun _ h => h.1)); have n1_ := am (Kd.R_mono (Kd.R_keep (IsS66.apart (show IsS66 w0 _ g s0_0 x1001_1 from by repeat (first | (with_reducible first | exact HI0.out | apply IsS66.alloc | apply IsS66.drewN | apply IsS66.drew | apply IsS66.set_1) | exact HI0.out)) (aR_ HO115.out) (by decide)) hk (fun _ h => h.2)) (fun _ h => h.1)); have n2_ := am (KeepBut.trans ab3_ hk (.inl rfl)); have n3_ := am (hb); have n4_ := am (hi); clear HO_3 HO115 HK HB HI0; have HO_3 := n0_; have HO115 := n1_; have HK := n2_; have HB := n3_; have HI0 := n4_; clear n0_ n1_ n2_ n3_ n4_; (try clear hb); (try clear hb2); (try clear hk); (try clear hi); obtain ⟨Ao19, co19, eo19⟩ := Kd.R_slice HO115.out; subst eo19; have p118 : 0 ≤ (t116 : Int) := of_decide_eq_true (by first | (with_reducible assumption) | assumption); have q118 : t116 < (y113.length : Int) := of_decide_eq_true (by first | (with_reducible assumption) | assumption); obtain ⟨ad118, e118, hx118_0⟩ := Kd.at_int (Kd.R_reads' HO115.out).2.2 t116 p118 q118; cases e118; replace p118 := eq_true p118; replace q118 := eq_true q118) | ((with_reducible refine gate_builtin (b := .append) (xs := #[.tmp 17, .tmp 23]) rfl ?_); at_builtin; refine Kd.R_append (Kd.int .i64) w.heap.size rfl (.tmp 17) (.tmp 23) 23 3 (.int .i64 0) 8 rfl Try.underlying23 info3 rfl (by decide) (by omega) u3 x3_1 (rd y113 t116) [.int .i64 (rd y113 t116)] (fun k_ => some k_ ≠ (.slice (some ad118) y113.length co19 : Value).ownBlock) (fun _ => False) rfl rfl ?aP (fun _ hk => hk.elim) ?aF ?aO (Below.refl _ _) ?aS ?aL ?_; (case aP => exact rfl); (case aF => exact (fun k_ hk => Kd.fresh' (Kd.R_lt (aR_ HO115.out)) k_ hk)); (case aO => exact (by (with_reducible repeat (first | apply Kd.R_alloc | apply Kd.R_drewN | apply Kd.R_drew)); exact Kd.R_mono HO_3.out (fun _ hk => hk.2))); (case aS => exact (keep_size (w := w) (g := g) (row := none) ab3_)); (case aL => have := LMc15.out; omega); intro v120 w20 ho hb hg hat; rw [← Ny119.out] at ho; have n0_ := am (IsS66.grown ab4_ hg (IsS66.own_ne HI0.out HO_3.out (by decide))); have n1_ := am (Kd.R_after (ok := (fun _ => True)) (aR_ HO115.out) hg hat); have n2_ := am (below_weaken ab5_ HL.out hb); have n3_ := am (KeepBut.trans ab3_ (KeepBut.of_grown hg g) (Kd.R_base2 HO_3.out)); have n4_ := am (ho); clear HI0 HO115 HB HK HO_3; have HI0 := n0_; have HO115 := n1_; have HB := n2_; have HK := n3_; have HO121 := n4_; clear n0_ n1_ n2_ n3_ n4_ ho hb hg hat))
         go_roundg k1
         case measure => have := HK1.out; omega
         case rel => exact ⟨(y119), (wrap64 (x5_1 + 1)), (t117), (by first | rfl | (simp; done) | (simp [*]; done)), H', ⟨by have := HK1.out; omega⟩, ⟨by (with_reducible repeat (first | apply Kd.R_alloc | apply Kd.R_drewN | apply Kd.R_drew)); exact Kd.R_mono HO121.out (fun _ hk => trivial)⟩, ⟨ab4_⟩, ⟨ab3_⟩, ⟨ab5_⟩⟩
        rw [if_neg c15] at H
        exact absurd H (by simp)
       rw [if_neg c14] at H
       exact absurd H (by simp)
      rw [if_neg c13] at H
      exact absurd H (by simp)
     rw [if_neg c11] at H
     have c11b0 : decide (x5_1 < (rd y107 t110)) = false := decide_eq_false c11
     clear c11
     simp only [Option.some.injEq, Prod.mk.injEq] at H
     obtain ⟨rfl, rfl⟩ := H
     go_wp2
     go_ret
     exact ⟨_, ab14_, by (with_reducible repeat (first | apply Kd.R_alloc | apply Kd.R_drewN | apply Kd.R_drew)); exact HO_3.out, ab4_, ab5_, ab3_⟩
  rw [if_neg c4] at H
  exact absurd H (by simp)
 rw [if_neg c3] at H
 exact absurd H (by simp)
theorem spec_l11Count.mono_l : ∀ k, (∀ y0, LeO (spec_l11Count.f k y0) (spec_l11Count.f (k + 1) y0)) ∧ (∀ y0 y1 y2, LeO (spec_l11Count.l0 k y0 y1 y2) (spec_l11Count.l0 (k + 1) y0 y1 y2))
 | 0 => ⟨fun _ r h => by simp [spec_l11Count.f] at h, fun _ _ _ r h => by simp [spec_l11Count.l0] at h⟩
 | k + 1 => by
  obtain ⟨ih0, ih1⟩ := spec_l11Count.mono_l k
  refine ⟨?_, ?_⟩
  ·intro y0
   unfold spec_l11Count.f
   repeat' first
   | (with_reducible exact ih0 _)
   | (with_reducible exact ih1 _ _ _)
   | (with_reducible exact LeO.refl _)
   | (with_reducible exact LeO.none _)
   | (with_reducible refine LeO.ite ?_ ?_)
   | (with_reducible refine LeO.bind ?_ (fun _ => ?_))
  ·intro y0 y1 y2
   unfold spec_l11Count.l0
   repeat' first
   | (with_reducible exact ih0 _)
   | (with_reducible exact ih1 _ _ _)
   | (with_reducible exact LeO.refl _)
   | (with_reducible exact LeO.none _)
   | (with_reducible refine LeO.ite ?_ ?_)
   | (with_reducible refine LeO.bind ?_ (fun _ => ?_))
theorem spec_l11Count.mono : ∀ a0 k, LeO (spec_l11Count.f k a0) (spec_l11Count.f (k + 1) a0) := by
 intro a0 k
 obtain ⟨ih0, ih1⟩ := spec_l11Count.mono_l k
 exact ih0 a0
def spec_l11Count.T5 : Bool × List (List Nat × List Nat) := (true, [([], []), ([0], [0]), ([], []), ([], []), ([2, 3], [2, 3]), ([4], [4]), ([5], [5]), ([6], [6]), ([1, 7], [1, 7]), ([], []), ([], []), ([9, 10], [9, 10]), ([11], [11]), ([12], [12]), ([13, 7], [13]), ([8, 14], [8, 14]), ([15, 14, 0, 1, 2, 3, 4, 5, 6, 7, 8, 9, 10, 11, 12, 13, 14, 15], [0, 15])])
def spec_l11Count.B5 : List Nat := [0, 1, 0, 0, 12, 28, 60, 124, 255, 0, 0, 1536, 3584, 7680, 16124, 32767, 65535]
theorem spec_l11Count.tab5 : rtab .any (opsOf Try.f38 5) = spec_l11Count.T5 := by kernel_rfl
theorem spec_l11Count.bits5 : waitsOk spec_l11Count.T5.2 spec_l11Count.B5 = true := by kernel_rfl
theorem spec_l11Count.calls (k : Nat) : ∀ (A0 : Option Addr) (c0 : Nat) (l0 : List (S37)) (r : Int) (w : World) (hr0 : Kd.C k37 w A0 l0.length l0) (hc0 : l0.length ≤ c0) (h : spec_l11Count.f k l0 = some r),
  Calls Try.prog 38 #[.slice A0 l0.length c0] w fun e w' => e = .returned (.int .i64 r) ∧ Below w.heap.size w w' := by
 induction k using Nat.strongRecOn with
 | _ k ih =>
 intro A0 c0 l0 r w hr0 hc0 h
 cases k with
 | zero => exact absurd h (by simp [spec_l11Count.f])
 | succ k =>
 simp only [spec_l11Count.f] at h
 have HR0 := am hr0
 have HC0 := am hc0
 clear hr0 hc0
 have HB := am (Below.refl w.heap.size w)
 have H : (spec_l11Count.l0 k l0 0 0) = some r := h
 clear h
 have H' := am H
 clear H
 go_enter Try.func38, Try.ntmps38
 go_wp2
 go_loopg [3, 4] k (fun kq v3 v4 w' => ∃ (x3_1 : Int) (x4_1 : Int), v3 = .int .i64 x3_1 ∧ v4 = .int .i64 x4_1 ∧ Aside0 (spec_l11Count.l0 kq l0 x3_1 x4_1 = some r) ∧ Aside0 (kq ≤ k) ∧ Aside0 (Below w.heap.size w w'))
 case atStart => exact ⟨(0), (0), (by first | rfl | (simp; done) | (simp [*]; done)), (by first | rfl | (simp; done) | (simp [*]; done)), H', ⟨Nat.le_refl _⟩, ⟨ab2_⟩⟩
 case round =>
  clear H'
  obtain ⟨x3_1, x4_1, rfl, rfl, HA, HK1, HB⟩ := hrel
  cases gk with
  | zero => exact absurd HA.out (by simp [spec_l11Count.l0])
  | succ k1 =>
   have H := HA.out
   clear HA
   simp only [spec_l11Count.l0] at H
   by_cases c2 : x4_1 < (l0.length : Int)
   ·rw [if_pos c2] at H
    have c2b0 : decide (x4_1 < (l0.length : Int)) = true := decide_eq_true c2
    clear c2
    by_cases c3 : 0 ≤ x4_1
    ·rw [if_pos c3] at H
     have c3b0 : decide (0 ≤ x4_1) = true := decide_eq_true c3
     clear c3
     obtain ⟨t123, A40, H⟩ := bsm H
     (try dsimp only at H)
     have A4 := am A40
     clear A40
     obtain ⟨t125, A50, H⟩ := bsm H
     (try dsimp only at H)
     have A5 := am A50
     clear A50
     have H' := am H
     clear H
     try go_wp2
     have n0_ := am (below_drew1 HB.out)
     clear HB
     have HB := n0_
     clear n0_
     have p122 : 0 ≤ (x4_1 : Int) := of_decide_eq_true (by first | (with_reducible assumption) | assumption)
     have q122 : x4_1 < (l0.length : Int) := of_decide_eq_true (by first | (with_reducible assumption) | assumption)
     obtain ⟨ad122, A122_5, c122_5, A122_6, c122_6, A122_7, c122_7, e122, hx122_0, hx122_1, hx122_2, hx122_3, hx122_4, hx122_5, hx122_6, hx122_7, hl122_5, hi122_5, hl122_6, hi122_6, hl122_7, hi122_7⟩ := at_T37 HR0.out x4_1 p122 q122
     have hw122_7 := hx122_7
     have hw122_6 := hx122_6
     have hw122_5 := hx122_5
     have hw122_4 := hx122_4
     have hw122_3 := hx122_3
     have hw122_2 := hx122_2
     have hw122_1 := hx122_1
     have hw122_0 := hx122_0
     cases e122
     replace hx122_0 := (HB.out.cell (World.block_lt_of_cell? w _ hx122_0)).trans hx122_0
     replace hx122_1 := (HB.out.cell (World.block_lt_of_cell? w _ hx122_1)).trans hx122_1
     replace hx122_2 := (HB.out.cell (World.block_lt_of_cell? w _ hx122_2)).trans hx122_2
     replace hx122_3 := (HB.out.cell (World.block_lt_of_cell? w _ hx122_3)).trans hx122_3
     replace hx122_4 := (HB.out.cell (World.block_lt_of_cell? w _ hx122_4)).trans hx122_4
     replace hx122_5 := (HB.out.cell (World.block_lt_of_cell? w _ hx122_5)).trans hx122_5
     replace hx122_6 := (HB.out.cell (World.block_lt_of_cell? w _ hx122_6)).trans hx122_6
     replace hx122_7 := (HB.out.cell (World.block_lt_of_cell? w _ hx122_7)).trans hx122_7
     have HR122_5 := am hi122_5
     have HC122_5 := am hl122_5
     clear hi122_5 hl122_5
     have HR122_6 := am hi122_6
     have HC122_6 := am hl122_6
     clear hi122_6 hl122_6
     have HR122_7 := am hi122_7
     have HC122_7 := am hl122_7
     clear hi122_7 hl122_7
     replace p122 := eq_true p122
     replace q122 := eq_true q122
     have p124 : 0 ≤ (x4_1 : Int) := of_decide_eq_true (by first | (with_reducible assumption) | assumption)
     have q124 : x4_1 < (l0.length : Int) := of_decide_eq_true (by first | (with_reducible assumption) | assumption)
     obtain ⟨ad124, A124_5, c124_5, A124_6, c124_6, A124_7, c124_7, e124, hx124_0, hx124_1, hx124_2, hx124_3, hx124_4, hx124_5, hx124_6, hx124_7, hl124_5, hi124_5, hl124_6, hi124_6, hl124_7, hi124_7⟩ := at_T37 HR0.out x4_1 p124 q124
     have hw124_7 := hx124_7
     have hw124_6 := hx124_6
     have hw124_5 := hx124_5
     have hw124_4 := hx124_4
     have hw124_3 := hx124_3
     have hw124_2 := hx124_2
     have hw124_1 := hx124_1
     have hw124_0 := hx124_0
     obtain rfl : ad122 = ad124 := (by injection e124)
     replace hx124_0 := (HB.out.cell (World.block_lt_of_cell? w _ hx124_0)).trans hx124_0
     replace hx124_1 := (HB.out.cell (World.block_lt_of_cell? w _ hx124_1)).trans hx124_1
     replace hx124_2 := (HB.out.cell (World.block_lt_of_cell? w _ hx124_2)).trans hx124_2
     replace hx124_3 := (HB.out.cell (World.block_lt_of_cell? w _ hx124_3)).trans hx124_3
     replace hx124_4 := (HB.out.cell (World.block_lt_of_cell? w _ hx124_4)).trans hx124_4
     replace hx124_5 := (HB.out.cell (World.block_lt_of_cell? w _ hx124_5)).trans hx124_5
     replace hx124_6 := (HB.out.cell (World.block_lt_of_cell? w _ hx124_6)).trans hx124_6
     replace hx124_7 := (HB.out.cell (World.block_lt_of_cell? w _ hx124_7)).trans hx124_7
     have HR124_5 := am hi124_5
     have HC124_5 := am hl124_5
     clear hi124_5 hl124_5
     have HR124_6 := am hi124_6
     have HC124_6 := am hl124_6
     clear hi124_6 hl124_6
     have HR124_7 := am hi124_7
     have HC124_7 := am hl124_7
     clear hi124_7 hl124_7
     replace p124 := eq_true p124
     replace q124 := eq_true q124
     have ea_ := Option.some.inj (hx122_5.symm.trans hx124_5)
     injection ea_ with ea_ en_ ec_
     subst ea_
     subst ec_
     clear en_
     have ea_ := Option.some.inj (hx122_6.symm.trans hx124_6)
     injection ea_ with ea_ en_ ec_
     subst ea_
     subst ec_
     clear en_
     have ea_ := Option.some.inj (hx122_7.symm.trans hx124_7)
     injection ea_ with ea_ en_ ec_
     subst ea_
     subst ec_
     clear en_
     refine start_ (n := 17) (S := fun w' => w'.cell? (ad122.add ((x4_1).toNat * 8)) = some (.int .i64 ((rd_T37 l0 x4_1).f0)) ∧ w'.cell? ⟨(ad122.add ((x4_1).toNat * 8)).block, (ad122.add ((x4_1).toNat * 8)).off + 1, none⟩ = some (.int .i64 ((rd_T37 l0 x4_1).f1)) ∧ w'.cell? ⟨(ad122.add ((x4_1).toNat * 8)).block, (ad122.add ((x4_1).toNat * 8)).off + 2, none⟩ = some (.int .i64 ((rd_T37 l0 x4_1).f2)) ∧ w'.cell? ⟨(ad122.add ((x4_1).toNat * 8)).block, (ad122.add ((x4_1).toNat * 8)).off + 3, none⟩ = some (.int .i64 ((rd_T37 l0 x4_1).f3.f0)) ∧ w'.cell? ⟨(ad122.add ((x4_1).toNat * 8)).block, (ad122.add ((x4_1).toNat * 8)).off + 4, none⟩ = some (.int .i64 ((rd_T37 l0 x4_1).f3.f1)) ∧ w'.cell? ⟨(ad122.add ((x4_1).toNat * 8)).block, (ad122.add ((x4_1).toNat * 8)).off + 5, none⟩ = some (.slice A122_5 ((rd_T37 l0 x4_1).f3.f2).length c122_5) ∧ w'.cell? ⟨(ad122.add ((x4_1).toNat * 8)).block, (ad122.add ((x4_1).toNat * 8)).off + 6, none⟩ = some (.slice A122_6 ((rd_T37 l0 x4_1).f4).length c122_6) ∧ w'.cell? ⟨(ad122.add ((x4_1).toNat * 8)).block, (ad122.add ((x4_1).toNat * 8)).off + 7, none⟩ = some (.slice A122_7 ((rd_T37 l0 x4_1).f5).length c122_7) ∧ w'.cell? (ad122.add ((x4_1).toNat * 8)) = some (.int .i64 ((rd_T37 l0 x4_1).f0)) ∧ w'.cell? ⟨(ad122.add ((x4_1).toNat * 8)).block, (ad122.add ((x4_1).toNat * 8)).off + 1, none⟩ = some (.int .i64 ((rd_T37 l0 x4_1).f1)) ∧ w'.cell? ⟨(ad122.add ((x4_1).toNat * 8)).block, (ad122.add ((x4_1).toNat * 8)).off + 2, none⟩ = some (.int .i64 ((rd_T37 l0 x4_1).f2)) ∧ w'.cell? ⟨(ad122.add ((x4_1).toNat * 8)).block, (ad122.add ((x4_1).toNat * 8)).off + 3, none⟩ = some (.int .i64 ((rd_T37 l0 x4_1).f3.f0)) ∧ w'.cell? ⟨(ad122.add ((x4_1).toNat * 8)).block, (ad122.add ((x4_1).toNat * 8)).off + 4, none⟩ = some (.int .i64 ((rd_T37 l0 x4_1).f3.f1)) ∧ w'.cell? ⟨(ad122.add ((x4_1).toNat * 8)).block, (ad122.add ((x4_1).toNat * 8)).off + 5, none⟩ = some (.slice A122_5 ((rd_T37 l0 x4_1).f3.f2).length c122_5) ∧ w'.cell? ⟨(ad122.add ((x4_1).toNat * 8)).block, (ad122.add ((x4_1).toNat * 8)).off + 6, none⟩ = some (.slice A122_6 ((rd_T37 l0 x4_1).f4).length c122_6) ∧ w'.cell? ⟨(ad122.add ((x4_1).toNat * 8)).block, (ad122.add ((x4_1).toNat * 8)).off + 7, none⟩ = some (.slice A122_7 ((rd_T37 l0 x4_1).f5).length c122_7)) (ds := []) #[false, false, false, false, false, false, false, false, false, false, false, false, false, false, false, false, false] (by kernel_rfl) rfl rfl ⟨((HB.out.cell (World.block_lt_of_cell? w _ hw122_0)).trans hw122_0), ((HB.out.cell (World.block_lt_of_cell? w _ hw122_1)).trans hw122_1), ((HB.out.cell (World.block_lt_of_cell? w _ hw122_2)).trans hw122_2), ((HB.out.cell (World.block_lt_of_cell? w _ hw122_3)).trans hw122_3), ((HB.out.cell (World.block_lt_of_cell? w _ hw122_4)).trans hw122_4), ((HB.out.cell (World.block_lt_of_cell? w _ hw122_5)).trans hw122_5), ((HB.out.cell (World.block_lt_of_cell? w _ hw122_6)).trans hw122_6), ((HB.out.cell (World.block_lt_of_cell? w _ hw122_7)).trans hw122_7), ((HB.out.cell (World.block_lt_of_cell? w _ hw124_0)).trans hw124_0), ((HB.out.cell (World.block_lt_of_cell? w _ hw124_1)).trans hw124_1), ((HB.out.cell (World.block_lt_of_cell? w _ hw124_2)).trans hw124_2), ((HB.out.cell (World.block_lt_of_cell? w _ hw124_3)).trans hw124_3), ((HB.out.cell (World.block_lt_of_cell? w _ hw124_4)).trans hw124_4), ((HB.out.cell (World.block_lt_of_cell? w _ hw124_5)).trans hw124_5), ((HB.out.cell (World.block_lt_of_cell? w _ hw124_6)).trans hw124_6), ((HB.out.cell (World.block_lt_of_cell? w _ hw124_7)).trans hw124_7)⟩ (fun hHeld => ?_); refine with_tabW spec_l11Count.tab5 spec_l11Count.bits5 (fun HT_ HW_ => ?_)
     generalize wr.drew = w6 at HB HR122_5 HR122_6 HR122_7 HR124_5 HR124_6 HR124_7 hx122_0 hx122_1 hx122_2 hx122_3 hx122_4 hx122_5 hx122_6 hx122_7 hx124_0 hx124_1 hx124_2 hx124_3 hx124_4 hx124_5 hx124_6 hx124_7 hHeld ⊢
     refine pure_ (i := 0) (N := some 11) (v := ?_) (a' := ?_) #[true, false, false, false, false, false, false, false, false, false, false, false, false, false, false, false, false] rfl rfl (any_of HT_.out (by kernel_rfl)) (fun _ _ _ h => h) (Or.inl ⟨by rfl, ?_⟩) ?_ ?_
     rotate_left
     ·intro w'
      go_simp
      with_reducible rfl
     rotate_left
     ·simp only [Act.put, List.setIfInBounds_toArray, List.set_cons_zero, List.set_cons_succ, i64_w, i32_w]
      rfl
     refine pure_ (i := 1) (N := some 12) (v := ?_) (a' := ?_) #[true, true, false, false, false, false, false, false, false, false, false, false, false, false, false, false, false] rfl rfl (any_of HT_.out (by kernel_rfl)) (fun _ _ _ h => h) (Or.inl ⟨by rfl, ?_⟩) ?_ ?_
     rotate_left
     ·intro w'
      go_simp
      with_reducible rfl
     rotate_left
     ·simp only [Act.put, List.setIfInBounds_toArray, List.set_cons_zero, List.set_cons_succ, i64_w, i32_w]
      rfl
     refine pure_ (i := 2) (N := some 13) (v := ?_) (a' := ?_) #[true, true, true, false, false, false, false, false, false, false, false, false, false, false, false, false, false] rfl rfl (any_of HT_.out (by kernel_rfl)) (fun _ _ _ h => h) (Or.inl ⟨by rfl, ?_⟩) ?_ ?_
     rotate_left
     ·intro w'
      go_simp
      with_reducible rfl
     rotate_left
     ·simp only [Act.put, List.setIfInBounds_toArray, List.set_cons_zero, List.set_cons_succ, i64_w, i32_w]
      rfl
     refine pure_ (i := 3) (N := some 14) (v := ?_) (a' := ?_) #[true, true, true, true, false, false, false, false, false, false, false, false, false, false, false, false, false] rfl rfl (any_of HT_.out (by kernel_rfl)) (fun _ _ _ h => h) (Or.inl ⟨by rfl, ?_⟩) ?_ ?_
     rotate_left
     ·intro w'
      go_simp
      with_reducible rfl
     rotate_left
     ·simp only [Act.put, List.setIfInBounds_toArray, List.set_cons_zero, List.set_cons_succ, i64_w, i32_w]
      rfl
     refine pure_ (i := 4) (N := some 15) (v := ?_) (a' := ?_) #[true, true, true, true, true, false, false, false, false, false, false, false, false, false, false, false, false] rfl rfl (any_of HT_.out (by kernel_rfl)) (fun _ _ _ h => h) (Or.inl ⟨by rfl, ?_⟩) ?_ ?_
     rotate_left
     ·intro w'
      go_simp
      with_reducible rfl
     rotate_left
     ·simp only [Act.put, List.setIfInBounds_toArray, List.set_cons_zero, List.set_cons_succ, i64_w, i32_w]
      rfl
     refine pure_ (i := 5) (N := some 16) (v := ?_) (a' := ?_) #[true, true, true, true, true, true, false, false, false, false, false, false, false, false, false, false, false] rfl rfl (any_of HT_.out (by kernel_rfl)) (fun _ _ _ h => h) (Or.inl ⟨by rfl, ?_⟩) ?_ ?_
     rotate_left
     ·intro w'
      go_simp
      with_reducible rfl
     rotate_left
     ·simp only [Act.put, List.setIfInBounds_toArray, List.set_cons_zero, List.set_cons_succ, i64_w, i32_w]
      rfl
     refine pure_ (i := 9) (N := some 20) (v := ?_) (a' := ?_) #[true, true, true, true, true, true, false, false, false, true, false, false, false, false, false, false, false] rfl rfl (any_of HT_.out (by kernel_rfl)) (fun _ _ _ h => h) (Or.inl ⟨by rfl, ?_⟩) ?_ ?_
     rotate_left
     ·intro w'
      go_simp
      with_reducible rfl
     rotate_left
     ·simp only [Act.put, List.setIfInBounds_toArray, List.set_cons_zero, List.set_cons_succ, i64_w, i32_w]
      rfl
     refine pure_ (i := 10) (N := some 21) (v := ?_) (a' := ?_) #[true, true, true, true, true, true, false, false, false, true, true, false, false, false, false, false, false] rfl rfl (any_of HT_.out (by kernel_rfl)) (fun _ _ _ h => h) (Or.inl ⟨by rfl, ?_⟩) ?_ ?_
     rotate_left
     ·intro w'
      go_simp
      with_reducible rfl
     rotate_left
     ·simp only [Act.put, List.setIfInBounds_toArray, List.set_cons_zero, List.set_cons_succ, i64_w, i32_w]
      rfl
     refine pure_ (i := 11) (N := some 22) (v := ?_) (a' := ?_) #[true, true, true, true, true, true, false, false, false, true, true, true, false, false, false, false, false] rfl rfl (any_of HT_.out (by kernel_rfl)) (fun _ _ _ h => h) (Or.inl ⟨by rfl, ?_⟩) ?_ ?_
     rotate_left
     ·intro w'
      go_simp
      with_reducible rfl
     rotate_left
     ·simp only [Act.put, List.setIfInBounds_toArray, List.set_cons_zero, List.set_cons_succ, i64_w, i32_w]
      rfl
     refine pure_ (i := 12) (N := some 23) (v := ?_) (a' := ?_) #[true, true, true, true, true, true, false, false, false, true, true, true, true, false, false, false, false] rfl rfl (any_of HT_.out (by kernel_rfl)) (fun _ _ _ h => h) (Or.inl ⟨by rfl, ?_⟩) ?_ ?_
     rotate_left
     ·intro w'
      go_simp
      with_reducible rfl
     rotate_left
     ·simp only [Act.put, List.setIfInBounds_toArray, List.set_cons_zero, List.set_cons_succ, i64_w, i32_w]
      rfl
     refine take_ (i := 6) (N := some 17) (v := ?_) (a' := ?_) #[true, true, true, true, true, true, true, false, false, true, true, true, true, false, false, false, false] rfl rfl (take_ofW HT_.out HW_.out (by kernel_rfl)) (fun _ _ _ h => h) (Or.inl ⟨by rfl, ?_⟩) hHeld ?_ ?_
     rotate_left
     ·rintro w' ⟨s0, s1, s2, s3, s4, s5, s6, s7, s8, s9, s10, s11, s12, s13, s14, s15⟩
      go_simp
      with_reducible rfl
     rotate_left
     ·simp only [Act.put, List.setIfInBounds_toArray, List.set_cons_zero, List.set_cons_succ, i64_w, i32_w]
      rfl
     refine take_ (i := 13) (N := some 24) (v := ?_) (a' := ?_) #[true, true, true, true, true, true, true, false, false, true, true, true, true, true, false, false, false] rfl rfl (take_ofW HT_.out HW_.out (by kernel_rfl)) (fun _ _ _ h => h) (Or.inl ⟨by rfl, ?_⟩) hHeld ?_ ?_
     rotate_left
     ·rintro w' ⟨s0, s1, s2, s3, s4, s5, s6, s7, s8, s9, s10, s11, s12, s13, s14, s15⟩
      go_simp
      with_reducible rfl
     rotate_left
     ·simp only [Act.put, List.setIfInBounds_toArray, List.set_cons_zero, List.set_cons_succ, i64_w, i32_w]
      rfl
     refine one_ (i := 7) (N := some 18) #[true, true, true, true, true, true, true, true, false, true, true, true, true, true, false, false, false] rfl rfl (one_of HT_.out (by kernel_rfl)) (by decide) (fun K hK => ?_)
     refine goes_ Try.func38 (by kernel_rfl) rfl #[.slice A122_6 ((rd_T37 l0 x4_1).f4).length c122_6] (by rfl) rfl rfl ab1_ ?_
     with_reducible refine (ih k1 (by have := HK1.out; omega) _ _ ((rd_T37 l0 x4_1).f4) t123 _ ?side1 ?side2 A4.out).mono ?_
     (case side1 => repeat (first | exact (Kd.C_below HR122_6.out HB.out) | (with_reducible refine Kd.C_alloc ?_ _) | (with_reducible refine Kd.C_drewN ?_ _) | (with_reducible refine Kd.C_drew ?_)))
     (case side2 => exact HC122_6.out)
     rintro e w7 ⟨rfl, hb⟩
     refine ⟨_, rfl, ?_⟩
     have n0_ := am (below_step ab2_ hb)
     clear HB
     have HB := n0_
     clear n0_
     (try clear hb)
     (try clear hb2)
     (try clear hk)
     (try clear hi)
     refine hK.out _ _ ⟨((HB.out.cell (World.block_lt_of_cell? w _ hw122_0)).trans hw122_0), ((HB.out.cell (World.block_lt_of_cell? w _ hw122_1)).trans hw122_1), ((HB.out.cell (World.block_lt_of_cell? w _ hw122_2)).trans hw122_2), ((HB.out.cell (World.block_lt_of_cell? w _ hw122_3)).trans hw122_3), ((HB.out.cell (World.block_lt_of_cell? w _ hw122_4)).trans hw122_4), ((HB.out.cell (World.block_lt_of_cell? w _ hw122_5)).trans hw122_5), ((HB.out.cell (World.block_lt_of_cell? w _ hw122_6)).trans hw122_6), ((HB.out.cell (World.block_lt_of_cell? w _ hw122_7)).trans hw122_7), ((HB.out.cell (World.block_lt_of_cell? w _ hw124_0)).trans hw124_0), ((HB.out.cell (World.block_lt_of_cell? w _ hw124_1)).trans hw124_1), ((HB.out.cell (World.block_lt_of_cell? w _ hw124_2)).trans hw124_2), ((HB.out.cell (World.block_lt_of_cell? w _ hw124_3)).trans hw124_3), ((HB.out.cell (World.block_lt_of_cell? w _ hw124_4)).trans hw124_4), ((HB.out.cell (World.block_lt_of_cell? w _ hw124_5)).trans hw124_5), ((HB.out.cell (World.block_lt_of_cell? w _ hw124_6)).trans hw124_6), ((HB.out.cell (World.block_lt_of_cell? w _ hw124_7)).trans hw124_7)⟩ (fun hHeld => ?_)
     clear hK K
     refine norm_ (a' := ?_) ?_ ?_
     rotate_left
     ·show Act.put _ (some 18) _ = _
      simp only [Act.put, List.setIfInBounds_toArray, List.set_cons_zero, List.set_cons_succ, i64_w, i32_w]
      rfl
     refine pure_ (i := 8) (N := some 19) (v := ?_) (a' := ?_) #[true, true, true, true, true, true, true, true, true, true, true, true, true, true, false, false, false] rfl rfl (any_of HT_.out (by kernel_rfl)) (fun _ _ _ h => h) (Or.inl ⟨by rfl, ?_⟩) ?_ ?_
     rotate_left
     ·intro w'
      go_simp
      with_reducible rfl
     rotate_left
     ·simp only [Act.put, List.setIfInBounds_toArray, List.set_cons_zero, List.set_cons_succ, i64_w, i32_w]
      rfl
     refine one_ (i := 14) (N := some 25) #[true, true, true, true, true, true, true, true, true, true, true, true, true, true, true, false, false] rfl rfl (one_of HT_.out (by kernel_rfl)) (by decide) (fun K hK => ?_)
     refine goes_ Try.func38 (by kernel_rfl) rfl #[.slice A122_7 ((rd_T37 l0 x4_1).f5).length c122_7] (by rfl) rfl rfl ab1_ ?_
     with_reducible refine (ih k1 (by have := HK1.out; omega) _ _ ((rd_T37 l0 x4_1).f5) t125 _ ?side1 ?side2 A5.out).mono ?_
     (case side1 => repeat (first | exact (Kd.C_below HR124_7.out HB.out) | (with_reducible refine Kd.C_alloc ?_ _) | (with_reducible refine Kd.C_drewN ?_ _) | (with_reducible refine Kd.C_drew ?_)))
     (case side2 => exact HC124_7.out)
     rintro e w8 ⟨rfl, hb⟩
     refine ⟨_, rfl, ?_⟩
     have n0_ := am (below_step ab2_ hb)
     clear HB
     have HB := n0_
     clear n0_
     (try clear hb)
     (try clear hb2)
     (try clear hk)
     (try clear hi)
     refine hK.out _ _ ⟨((HB.out.cell (World.block_lt_of_cell? w _ hw122_0)).trans hw122_0), ((HB.out.cell (World.block_lt_of_cell? w _ hw122_1)).trans hw122_1), ((HB.out.cell (World.block_lt_of_cell? w _ hw122_2)).trans hw122_2), ((HB.out.cell (World.block_lt_of_cell? w _ hw122_3)).trans hw122_3), ((HB.out.cell (World.block_lt_of_cell? w _ hw122_4)).trans hw122_4), ((HB.out.cell (World.block_lt_of_cell? w _ hw122_5)).trans hw122_5), ((HB.out.cell (World.block_lt_of_cell? w _ hw122_6)).trans hw122_6), ((HB.out.cell (World.block_lt_of_cell? w _ hw122_7)).trans hw122_7), ((HB.out.cell (World.block_lt_of_cell? w _ hw124_0)).trans hw124_0), ((HB.out.cell (World.block_lt_of_cell? w _ hw124_1)).trans hw124_1), ((HB.out.cell (World.block_lt_of_cell? w _ hw124_2)).trans hw124_2), ((HB.out.cell (World.block_lt_of_cell? w _ hw124_3)).trans hw124_3), ((HB.out.cell (World.block_lt_of_cell? w _ hw124_4)).trans hw124_4), ((HB.out.cell (World.block_lt_of_cell? w _ hw124_5)).trans hw124_5), ((HB.out.cell (World.block_lt_of_cell? w _ hw124_6)).trans hw124_6), ((HB.out.cell (World.block_lt_of_cell? w _ hw124_7)).trans hw124_7)⟩ (fun hHeld => ?_)
     clear hK K
     refine norm_ (a' := ?_) ?_ ?_
     rotate_left
     ·show Act.put _ (some 25) _ = _
      simp only [Act.put, List.setIfInBounds_toArray, List.set_cons_zero, List.set_cons_succ, i64_w, i32_w]
      rfl
     refine pure_ (i := 15) (N := some 26) (v := ?_) (a' := ?_) #[true, true, true, true, true, true, true, true, true, true, true, true, true, true, true, true, false] rfl rfl (any_of HT_.out (by kernel_rfl)) (fun _ _ _ h => h) (Or.inl ⟨by rfl, ?_⟩) ?_ ?_
     rotate_left
     ·intro w'
      go_simp
      with_reducible rfl
     rotate_left
     ·simp only [Act.put, List.setIfInBounds_toArray, List.set_cons_zero, List.set_cons_succ, i64_w, i32_w]
      rfl
     refine pure_ (i := 16) (N := some 3) (v := ?_) (a' := ?_) #[true, true, true, true, true, true, true, true, true, true, true, true, true, true, true, true, true] rfl rfl (any_of HT_.out (by kernel_rfl)) (fun _ _ _ h => h) (Or.inl ⟨by rfl, ?_⟩) ?_ ?_
     rotate_left
     ·intro w'
      go_simp
      with_reducible rfl
     rotate_left
     ·simp only [Act.put, List.setIfInBounds_toArray, List.set_cons_zero, List.set_cons_succ, i64_w, i32_w]
      rfl
     refine done_ (done_of HT_.out (by kernel_rfl)) ?_
     try go_wp2
     go_roundg k1
     case measure => have := HK1.out; omega
     case rel => exact ⟨(wrap64 ((wrap64 ((wrap64 (x3_1 + 1)) + t123)) + t125)), (wrap64 (x4_1 + 1)), (by first | rfl | (simp; done) | (simp [*]; done)), (by first | rfl | (simp; done) | (simp [*]; done)), H', ⟨by have := HK1.out; omega⟩, ⟨ab2_⟩⟩
    rw [if_neg c3] at H
    exact absurd H (by simp)
   rw [if_neg c2] at H
   have c2b0 : decide (x4_1 < (l0.length : Int)) = false := decide_eq_false c2
   clear c2
   obtain rfl := Option.some.inj H
   go_wp2
   go_ret
   exact ⟨rr_, ab2_⟩
def spec_l92If.T3 : Bool × List (List Nat × List Nat) := (true, [([], []), ([], []), ([], []), ([], []), ([], []), ([4], [4]), ([], []), ([6], [6]), ([], []), ([2, 3, 5, 7, 8, 7], [2, 3, 5, 7, 8]), ([0, 1, 9], [0, 1, 9]), ([10, 9, 0, 1, 2, 3, 4, 5, 6, 7, 8, 9, 10], [10])])
def spec_l92If.B3 : List Nat := [0, 0, 0, 0, 0, 16, 0, 64, 0, 508, 1023, 2047]
theorem spec_l92If.tab3 : rtab .any (opsOf Try.f88 3) = spec_l92If.T3 := by kernel_rfl
theorem spec_l92If.bits3 : waitsOk spec_l92If.T3.2 spec_l92If.B3 = true := by kernel_rfl
theorem spec_l92If.step (k : Nat) (ih_spec_l92If : ∀ m, m < k → spec_l92If.CallsAt m) (ih_spec_l92Loop : ∀ m, m < k → spec_l92Loop.CallsAt m) (ih_spec_l92Stmt : ∀ m, m < k → spec_l92Stmt.CallsAt m) (ih_spec_l92Block : ∀ m, m < k → spec_l92Block.CallsAt m) : spec_l92If.CallsAt k := by
 intro g s0_0 s0_1 a1 a2 a3 r1 r2 r3 r4 r5 r6 r7 r8 r9 w0 w hI hB h
 cases k with
 | zero => exact absurd h (by simp [spec_l92If.f])
 | succ k =>
 simp only [spec_l92If.f] at h
 have hu37 := Try.underlying37
 have hu34 := Try.underlying34
 have HI0 := am hI
 have HK := am (KeepBut.refl w g none)
 have HL := am hB.size
 clear hI
 have HW0 := am hB.size
 have HB := am hB
 clear hB
 have H : ((spec_l6Rd_pick.f k s0_0 s0_1 2).bind fun bt237 => ((spec_l91Expr.f k s0_0 bt237.2 (wrap64 (1 + bt237.1))).bind fun bt239 => ((spec_l6Rd_pick.f k s0_0 bt239.2.2.2 3).bind fun bt246 => ((spec_l92Block.f k s0_0 bt246.2 a1 (wrap64 (a2 - 1)) bt246.1 a3).bind fun bt248 => ((spec_l6Rd_pick.f k s0_0 bt248.2 3).bind fun bt252 => ((spec_l92Block.f k s0_0 bt252.2 a1 (wrap64 (a2 - 1)) bt252.1 a3).bind fun bt254 => (some (2, 0, 0, bt239.1, bt239.2.1, bt239.2.2.1, bt248.1, bt254.1, bt254.2)))))))) = some (r1, r2, r3, r4, r5, r6, r7, r8, r9) := h
 clear h
 obtain ⟨⟨t237, t238⟩, A50, H⟩ := bsm H
 (try dsimp only at H)
 have A5 := am A50
 clear A50
 obtain ⟨⟨t239, t240, t241, t244⟩, A60, H⟩ := bsm H
 (try dsimp only at H)
 have A6 := am A60
 clear A60
 obtain ⟨⟨t246, t247⟩, A70, H⟩ := bsm H
 (try dsimp only at H)
 have A7 := am A70
 clear A70
 obtain ⟨⟨t248, t251⟩, A80, H⟩ := bsm H
 (try dsimp only at H)
 have A8 := am A80
 clear A80
 obtain ⟨⟨t252, t253⟩, A90, H⟩ := bsm H
 (try dsimp only at H)
 have A9 := am A90
 clear A90
 obtain ⟨⟨t254, t257⟩, A100, H⟩ := bsm H
 (try dsimp only at H)
 have A10 := am A100
 clear A100
 simp only [Option.some.injEq, Prod.mk.injEq] at H
 obtain ⟨rfl, rfl, rfl, rfl, rfl, rfl, rfl, rfl, rfl⟩ := H
 go_enter Try.func88, Try.ntmps88
 try go_wp2_with (first | ((with_reducible refine gate_dst (N := 8) rfl ?_); refine box_event ?hg (N := 8) ?hd (cs := #[.int .i64 0, .int .i64 0, .int .i64 0, .int .i64 0, .int .i64 0, .slice none 0 0, .slice none 0 0, .slice none 0 0]) (t := 37) ?hr ?_; (case hd => rfl); (case hg => rfl); (case hr => first | (go_simp; done) | (go_simp; rfl)); intro gb236 hg w11 hbox hb; have n0_ := am (IsS66.below ab4_ hb); have n1_ := am (KeepBut.trans ab3_ (KeepBut.of_below hb g none) (.inl rfl)); have n2_ := am (below_step ab5_ hb); have n3_ := am (hbox); have n4_ := am ((by rw [hg]; exact (keep_size (w := w) (g := g) (row := none) ab3_) : w.heap.size ≤ gb236)); have n5_ := am ((Nat.le_trans HW0.out (by rw [hg]; exact (keep_size (w := w) (g := g) (row := none) ab3_) : w.heap.size ≤ gb236) : w0.heap.size ≤ gb236)); have n6_ := am ((by rw [hg]; exact Nat.ne_of_lt (IsS66.lt (show IsS66 w0 _ g s0_0 s0_1 from by repeat (first | (with_reducible first | exact HI0.out | apply IsS66.alloc | apply IsS66.drewN | apply IsS66.drew | apply IsS66.set_1) | exact HI0.out))) : g ≠ gb236)); have n7_ := am ((by rw [hg]; exact Nat.ne_of_gt (IsS66.lt (show IsS66 w0 _ g s0_0 s0_1 from by repeat (first | (with_reducible first | exact HI0.out | apply IsS66.alloc | apply IsS66.drewN | apply IsS66.drew | apply IsS66.set_1) | exact HI0.out))) : gb236 ≠ g)); clear HI0 HK HB; have HI0 := n0_; have HK := n1_; have HB := n2_; have BK236 := n3_; have GW236 := n4_; have GE236 := n5_; have NB0_236 := n6_; have NB236_0 := n7_; clear n0_ n1_ n2_ n3_ n4_ n5_ n6_ n7_ hb hbox hg) | ((with_reducible refine gate_callee (f := 50) rfl ?_); refine goesL_ (some 13) rfl rfl Try.func50 (by kernel_rfl) rfl #[.pointer (some ⟨g, 0, none⟩), .int .i64 2] rfl ab1_ ?_; (with_reducible refine (spec_l6Rd_pick.calls k g s0_0 s0_1 2 t237 t238 w0 _ ?side1 ?side2 A5.out).mono ?_); (case side1 => exact ab86_); (case side2 => repeat (first | (with_reducible first | exact HB.out | apply below_alloc | apply pw_below_drewN | apply below_drew1 | refine below_set ?_ (IsS66.ge HI0.out) | refine below_set ?_ GE236.out) | exact HB.out)); rintro e w12 ⟨rfl, hi, hb, hk⟩; refine ⟨_, rfl, ?_⟩; have n0_ := am (KeepBut.blk hk (g' := gb236) (o := .cells #[.int .i64 0, .int .i64 0, .int .i64 0, .int .i64 0, .int .i64 0, .slice none 0 0, .slice none 0 0, .slice none 0 0] 37 (0, 0)) (aG_ BK236.out) NB236_0.out (by simp)); have n1_ := am (KeepBut.trans ab45_ hk (.inl rfl)); have n2_ := am (hb); have n3_ := am (hi); clear BK236 HK HB HI0; have BK236 := n0_; have HK := n1_; have HB := n2_; have HI0 := n3_; clear n0_ n1_ n2_ n3_; (try clear hb); (try clear hb2); (try clear hk); (try clear hi)) | ((with_reducible refine gate_callee (f := 91) rfl ?_); refine goesL_ (some 15) rfl rfl Try.func91 (by kernel_rfl) rfl #[.pointer (some ⟨g, 0, none⟩), .int .i64 (wrap64 (1 + t237))] rfl ab1_ ?_; (with_reducible refine (spec_l91Expr.calls k g s0_0 t238 (wrap64 (1 + t237)) t239 t240 t241 t244 w0 _ ?side1 ?side2 A6.out).mono ?_); (case side1 => exact ab86_); (case side2 => repeat (first | (with_reducible first | exact HB.out | apply below_alloc | apply pw_below_drewN | apply below_drew1 | refine below_set ?_ (IsS66.ge HI0.out) | refine below_set ?_ GE236.out) | exact HB.out)); rintro e w13 ⟨v242, rfl, ho0, hi, hb, hk⟩; refine ⟨_, rfl, ?_⟩; have n0_ := am (KeepBut.blk hk (g' := gb236) (o := .cells #[.int .i64 0, .int .i64 0, .int .i64 0, .int .i64 0, .int .i64 0, .slice none 0 0, .slice none 0 0, .slice none 0 0] 37 (0, 0)) (aG_ BK236.out) NB236_0.out (by simp)); have n1_ := am (Kd.N_lower (Kd.N_mono (ok' := fun k_ => (w.heap.size ≤ k_) ∧ k_ ≠ gb236 ∧ k_ ≠ g) ho0 (fun k_ hk_ => ⟨(Nat.le_trans (keep_size (w := w) (g := g) (row := none) ab45_) hk_), (Kd.freshB (g := gb236) (o := .cells #[.int .i64 0, .int .i64 0, .int .i64 0, .int .i64 0, .int .i64 0, .slice none 0 0, .slice none 0 0, .slice none 0 0] 37 (0, 0)) (aG_ BK236.out) k_ hk_), (IsS66.fresh ab86_ k_ hk_)⟩)) (keep_size (w := w) (g := g) (row := none) ab45_)); have n2_ := am (KeepBut.trans ab45_ hk (.inl rfl)); have n3_ := am (hb); have n4_ := am (hi); clear BK236 HK HB HI0; have BK236 := n0_; have HO243 := n1_; have HK := n2_; have HB := n3_; have HI0 := n4_; clear n0_ n1_ n2_ n3_ n4_; (try clear hb); (try clear hb2); (try clear hk); (try clear hi); (try clear ho0)) | ((with_reducible refine gate_dst (N := 9) rfl ?_); refine box_event ?hg (N := 9) ?hd (cs := #[.int .i64 0, .int .i64 0, .slice none 0 0]) (t := 34) ?hr ?_; (case hd => rfl); (case hg => rfl); (case hr => first | (go_simp; done) | (go_simp; rfl)); intro gb245 hg w14 hbox hb; have n0_ := am (Kd.N_below (Kd.N_elderB (aN_ HO243.out) gb245 (Nat.le_of_eq hg.symm)) hb); have n1_ := am (IsS66.below ab86_ hb); have n2_ := am (blk_below (g := gb236) (o := .cells #[.int .i64 0, .int .i64 0, .int .i64 0, .int .i64 0, .int .i64 0, .slice none 0 0, .slice none 0 0, .slice none 0 0] 37 (0, 0)) (aG_ BK236.out) hb); have n3_ := am (KeepBut.trans ab45_ (KeepBut.of_below hb g none) (.inl rfl)); have n4_ := am (below_step (by repeat (first | (with_reducible first | exact HB.out | apply below_alloc | apply pw_below_drewN | apply below_drew1 | refine below_set ?_ (IsS66.ge HI0.out) | refine below_set ?_ GE236.out) | exact HB.out)) hb); have n5_ := am (hbox); have n6_ := am ((by rw [hg]; exact (keep_size (w := w) (g := g) (row := none) ab45_) : w.heap.size ≤ gb245)); have n7_ := am ((Nat.le_trans HW0.out (by rw [hg]; exact (keep_size (w := w) (g := g) (row := none) ab45_) : w.heap.size ≤ gb245) : w0.heap.size ≤ gb245)); have n8_ := am ((by rw [hg]; exact Nat.ne_of_lt (blk_lt (g := gb236) (o := .cells #[.int .i64 0, .int .i64 0, .int .i64 0, .int .i64 0, .int .i64 0, .slice none 0 0, .slice none 0 0, .slice none 0 0] 37 (0, 0)) (aG_ BK236.out)) : gb236 ≠ gb245)); have n9_ := am ((by rw [hg]; exact Nat.ne_of_gt (blk_lt (g := gb236) (o := .cells #[.int .i64 0, .int .i64 0, .int .i64 0, .int .i64 0, .int .i64 0, .slice none 0 0, .slice none 0 0, .slice none 0 0] 37 (0, 0)) (aG_ BK236.out)) : gb245 ≠ gb236)); have n10_ := am ((by rw [hg]; exact Nat.ne_of_lt (IsS66.lt (show IsS66 w0 _ g s0_0 t244 from by repeat (first | (with_reducible first | exact HI0.out | apply IsS66.alloc | apply IsS66.drewN | apply IsS66.drew | apply IsS66.set_1 | refine IsS66.far ?_ NB0_236.out _) | exact HI0.out))) : g ≠ gb245)); have n11_ := am ((by rw [hg]; exact Nat.ne_of_gt (IsS66.lt (show IsS66 w0 _ g s0_0 t244 from by repeat (first | (with_reducible first | exact HI0.out | apply IsS66.alloc | apply IsS66.drewN | apply IsS66.drew | apply IsS66.set_1 | refine IsS66.far ?_ NB0_236.out _) | exact HI0.out))) : gb245 ≠ g)); clear HO243 HI0 BK236 HK HB; have HO243 := n0_; have HI0 := n1_; have BK236 := n2_; have HK := n3_; have HB := n4_; have BK245 := n5_; have GW245 := n6_; have GE245 := n7_; have NB236_245 := n8_; have NB245_236 := n9_; have NB0_245 := n10_; have NB245_0 := n11_; clear n0_ n1_ n2_ n3_ n4_ n5_ n6_ n7_ n8_ n9_ n10_ n11_ hb hbox hg; have hnb15 := NB245_236.out; have hnc15 := NB236_245.out; have hnb16 := NB245_0.out; have hnc16 := NB0_245.out; obtain ⟨hcz17_0, hcz17_1, hcz17_2, hfz17_0, hfz17_1, hfz17_2⟩ := bcf3_ BK245.out; obtain ⟨Ao18, co18, eo18⟩ := Kd.N_slice HO243.out; subst eo18) | ((with_reducible refine gate_callee (f := 50) rfl ?_); refine goesL_ (some 21) rfl rfl Try.func50 (by kernel_rfl) rfl #[.pointer (some ⟨g, 0, none⟩), .int .i64 3] rfl ab1_ ?_; (with_reducible refine (spec_l6Rd_pick.calls k g s0_0 t244 3 t246 t247 w0 _ ?side1 ?side2 A7.out).mono ?_); (case side1 => exact ab64_); (case side2 => repeat (first | (with_reducible first | exact HB.out | apply below_alloc | apply pw_below_drewN | apply below_drew1 | refine below_set ?_ (IsS66.ge HI0.out) | refine below_set ?_ GE236.out | refine below_set ?_ GE245.out) | exact HB.out)); rintro e w19 ⟨rfl, hi, hb, hk⟩; refine ⟨_, rfl, ?_⟩; have n0_ := am (KeepBut.blk hk (g' := gb236) (o := .cells #[.int .i64 0, .int .i64 0, .int .i64 0, .int .i64 0, .int .i64 0, .slice none 0 0, .slice none 0 0, .slice none 0 0] 37 (0, 0)) (by (with_reducible repeat (first | refine blk_drewN ?_ _ | refine blk_drew ?_ | refine blk_alloc ?_ _)); refine blk_far ?_ NB236_245.out _; (with_reducible repeat (first | refine blk_drewN ?_ _ | refine blk_drew ?_ | refine blk_alloc ?_ _)); refine blk_far ?_ NB236_245.out _; (with_reducible repeat (first | refine blk_drewN ?_ _ | refine blk_drew ?_ | refine blk_alloc ?_ _)); refine blk_far ?_ NB236_245.out _; (with_reducible repeat (first | refine blk_drewN ?_ _ | refine blk_drew ?_ | refine blk_alloc ?_ _)); exact BK236.out) NB236_0.out (by simp)); have n1_ := am (Kd.N_mono (Kd.N_keep (Kd.N_mono (ok := fun k_ => ((((w.heap.size ≤ k_)) ∧ (k_ ≠ gb236 ∧ k_ ≠ g)) ∧ k_ ≠ gb245)) (by (with_reducible repeat (first | apply Kd.N_alloc | apply Kd.N_drewN | apply Kd.N_drew)); exact (Kd.N_mono (Kd.N_far (p := ⟨gb245, 2, none⟩) (Kd.N_far (p := ⟨gb245, 1, none⟩) (Kd.N_far (p := ⟨gb245, 0, none⟩) (Kd.N_mono HO243.out (fun k_ hk => (⟨hk, hk.2⟩ : _ ∧ k_ ≠ gb245))) (fun _ hk => hk.2) (.int .i64 t239)) (fun _ hk => hk.2) (.int .i64 t240)) (fun _ hk => hk.2) (.slice Ao18 t241.length co18)) (fun _ h_ => h_.1))) (fun k_ hk_ => (⟨hk_, hk_.1.2.2⟩ : _ ∧ k_ ≠ g))) hk (fun _ h => h.2)) (fun _ h => h.1)); have n2_ := am (KeepBut.blk hk (g' := gb245) (o := .cells #[.int .i64 t239, .int .i64 t240, .slice Ao18 t241.length co18] 34 (0, 0)) (by (with_reducible repeat (first | refine blk_drewN ?_ _ | refine blk_drew ?_ | refine blk_alloc ?_ _)); refine blk_put (cs := #[.int .i64 t239, .int .i64 t240, .slice none 0 0]) ?_ 2 _ rfl; (with_reducible repeat (first | refine blk_drewN ?_ _ | refine blk_drew ?_ | refine blk_alloc ?_ _)); refine blk_put (cs := #[.int .i64 t239, .int .i64 0, .slice none 0 0]) ?_ 1 _ rfl; (with_reducible repeat (first | refine blk_drewN ?_ _ | refine blk_drew ?_ | refine blk_alloc ?_ _)); refine blk_put (cs := #[.int .i64 0, .int .i64 0, .slice none 0 0]) ?_ 0 _ rfl; (with_reducible repeat (first | refine blk_drewN ?_ _ | refine blk_drew ?_ | refine blk_alloc ?_ _)); exact BK245.out) NB245_0.out (by simp)); have n3_ := am (KeepBut.trans ab28_ hk (.inl rfl)); have n4_ := am (hb); have n5_ := am (hi); clear BK236 HO243 BK245 HK HB HI0; have BK236 := n0_; have HO243 := n1_; have BK245 := n2_; have HK := n3_; have HB := n4_; have HI0 := n5_; clear n0_ n1_ n2_ n3_ n4_ n5_; (try clear hb); (try clear hb2); (try clear hk); (try clear hi)) | ((with_reducible refine gate_callee (f := 70) rfl ?_); refine goesL_ (some 23) rfl rfl Try.func70 (by kernel_rfl) rfl #[.pointer (some ⟨g, 0, none⟩), .int .i64 a1, .int .i64 (wrap64 (a2 - 1)), .int .i64 t246, .bool a3] rfl ab1_ ?_; (with_reducible refine (ih_spec_l92Block k (by omega) g s0_0 t247 a1 (wrap64 (a2 - 1)) t246 a3 t248 t251 w0 _ ?side1 ?side2 A8.out).mono ?_); (case side1 => exact ab64_); (case side2 => repeat (first | (with_reducible first | exact HB.out | apply below_alloc | apply pw_below_drewN | apply below_drew1 | refine below_set ?_ (IsS66.ge HI0.out) | refine below_set ?_ GE236.out | refine below_set ?_ GE245.out) | exact HB.out)); rintro e w20 ⟨v249, rfl, ho0, hi, hb, hk⟩; refine ⟨_, rfl, ?_⟩; have n0_ := am (KeepBut.blk hk (g' := gb236) (o := .cells #[.int .i64 0, .int .i64 0, .int .i64 0, .int .i64 0, .int .i64 0, .slice none 0 0, .slice none 0 0, .slice none 0 0] 37 (0, 0)) (aG_ BK236.out) NB236_0.out (by simp)); have n1_ := am (Kd.N_mono (Kd.N_told (Kd.N_oldK (Kd.N_mono (ok := fun k_ => ((((w.heap.size ≤ k_)) ∧ (k_ ≠ gb236 ∧ k_ ≠ g)) ∧ k_ ≠ gb245)) (aN_ HO243.out) (fun k_ hk_ => (⟨hk_, hk_.1.2.2⟩ : _ ∧ k_ ≠ g))) hk) (by first | exact Kd.N_base ho0 | exact Kd.N_base (Kd.R_N ho0))) (fun _ h_ => h_.1)); have n2_ := am (KeepBut.blk hk (g' := gb245) (o := .cells #[.int .i64 t239, .int .i64 t240, .slice Ao18 t241.length co18] 34 (0, 0)) (aG_ BK245.out) NB245_0.out (by simp)); have n3_ := am (Kd.N_lower (Kd.N_mono (ok' := fun k_ => (w.heap.size ≤ k_) ∧ some k_ ≠ (.slice Ao18 t241.length co18 : Value).ownBlock ∧ k_ ≠ gb236 ∧ k_ ≠ gb245 ∧ k_ ≠ g) ho0 (fun k_ hk_ => ⟨(Nat.le_trans (keep_size (w := w) (g := g) (row := none) ab28_) hk_), (Kd.fresh' (Kd.N_lt (aN_ HO243.out)) k_ hk_), (Kd.freshB (g := gb236) (o := .cells #[.int .i64 0, .int .i64 0, .int .i64 0, .int .i64 0, .int .i64 0, .slice none 0 0, .slice none 0 0, .slice none 0 0] 37 (0, 0)) (aG_ BK236.out) k_ hk_), (Kd.freshB (g := gb245) (o := .cells #[.int .i64 t239, .int .i64 t240, .slice Ao18 t241.length co18] 34 (0, 0)) (aG_ BK245.out) k_ hk_), (IsS66.fresh ab64_ k_ hk_)⟩)) (keep_size (w := w) (g := g) (row := none) ab28_)); have n4_ := am (KeepBut.trans ab28_ hk (.inl rfl)); have n5_ := am (hb); have n6_ := am (hi); clear BK236 HO243 BK245 HK HB HI0; have BK236 := n0_; have HO243 := n1_; have BK245 := n2_; have HO250 := n3_; have HK := n4_; have HB := n5_; have HI0 := n6_; clear n0_ n1_ n2_ n3_ n4_ n5_ n6_; (try clear hb); (try clear hb2); (try clear hk); (try clear hi); (try clear ho0)))
 have n0_ := am (Kd.N_drew HO243.out)
 have n1_ := am (Kd.N_drew HO250.out)
 have n2_ := am (blk_drew BK236.out)
 have n3_ := am (blk_drew BK245.out)
 have n4_ := am (IsS66.drew HI0.out)
 have n5_ := am (keep_drew HK.out)
 have n6_ := am (below_drew1 HB.out)
 clear HO243
 clear HO250
 clear BK236
 clear BK245
 clear HI0
 clear HK
 clear HB
 have HO243 := n0_
 have HO250 := n1_
 have BK236 := n2_
 have BK245 := n3_
 have HI0 := n4_
 have HK := n5_
 have HB := n6_
 clear n0_ n1_ n2_ n3_ n4_ n5_ n6_
 refine start_ (n := 12) (S := fun w' => w'.cell? ⟨gb245, 0, none⟩ = some (.int .i64 t239) ∧ w'.cell? ⟨gb245, 1, none⟩ = some (.int .i64 t240) ∧ w'.cell? ⟨gb245, 2, none⟩ = some (.slice Ao18 t241.length co18)) (ds := []) #[false, false, false, false, false, false, false, false, false, false, false, false] (by kernel_rfl) rfl rfl ⟨(blk_cell BK245.out 0).trans rfl, (blk_cell BK245.out 1).trans rfl, (blk_cell BK245.out 2).trans rfl⟩ (fun hHeld => ?_); refine with_tabW spec_l92If.tab3 spec_l92If.bits3 (fun HT_ HW_ => ?_)
 generalize w20.drew = w21 at HO243 HO250 BK236 BK245 HI0 HK HB hHeld ⊢
 refine pure_ (i := 1) (N := some 25) (v := ?_) (a' := ?_) #[false, true, false, false, false, false, false, false, false, false, false, false] rfl rfl (any_of HT_.out (by kernel_rfl)) (fun _ _ _ h => h) (Or.inl ⟨by rfl, ?_⟩) ?_ ?_
 rotate_left
 ·intro w'
  go_simp
  with_reducible rfl
 rotate_left
 ·simp only [Act.put, List.setIfInBounds_toArray, List.set_cons_zero, List.set_cons_succ, i64_w, i32_w]
  rfl
 refine pure_ (i := 2) (N := some 26) (v := ?_) (a' := ?_) #[false, true, true, false, false, false, false, false, false, false, false, false] rfl rfl (any_of HT_.out (by kernel_rfl)) (fun _ _ _ h => h) (Or.inl ⟨by rfl, ?_⟩) ?_ ?_
 rotate_left
 ·intro w'
  go_simp
  with_reducible rfl
 rotate_left
 ·simp only [Act.put, List.setIfInBounds_toArray, List.set_cons_zero, List.set_cons_succ, i64_w, i32_w]
  rfl
 refine pure_ (i := 3) (N := some 27) (v := ?_) (a' := ?_) #[false, true, true, true, false, false, false, false, false, false, false, false] rfl rfl (any_of HT_.out (by kernel_rfl)) (fun _ _ _ h => h) (Or.inl ⟨by rfl, ?_⟩) ?_ ?_
 rotate_left
 ·intro w'
  go_simp
  with_reducible rfl
 rotate_left
 ·simp only [Act.put, List.setIfInBounds_toArray, List.set_cons_zero, List.set_cons_succ, i64_w, i32_w]
  rfl
 refine pure_ (i := 4) (N := some 28) (v := ?_) (a' := ?_) #[false, true, true, true, true, false, false, false, false, false, false, false] rfl rfl (any_of HT_.out (by kernel_rfl)) (fun _ _ _ h => h) (Or.inl ⟨by rfl, ?_⟩) ?_ ?_
 rotate_left
 ·intro w'
  go_simp
  with_reducible rfl
 rotate_left
 ·simp only [Act.put, List.setIfInBounds_toArray, List.set_cons_zero, List.set_cons_succ, i64_w, i32_w]
  rfl
 refine pure_ (i := 5) (N := some 29) (v := ?_) (a' := ?_) #[false, true, true, true, true, true, false, false, false, false, false, false] rfl rfl (any_of HT_.out (by kernel_rfl)) (fun _ _ _ h => h) (Or.inl ⟨by rfl, ?_⟩) ?_ ?_
 rotate_left
 ·intro w'
  go_simp
  with_reducible rfl
 rotate_left
 ·simp only [Act.put, List.setIfInBounds_toArray, List.set_cons_zero, List.set_cons_succ, i64_w, i32_w]
  rfl
 refine pure_ (i := 6) (N := some 30) (v := ?_) (a' := ?_) #[false, true, true, true, true, true, true, false, false, false, false, false] rfl rfl (any_of HT_.out (by kernel_rfl)) (fun _ _ _ h => h) (Or.inl ⟨by rfl, ?_⟩) ?_ ?_
 rotate_left
 ·intro w'
  go_simp
  with_reducible rfl
 rotate_left
 ·simp only [Act.put, List.setIfInBounds_toArray, List.set_cons_zero, List.set_cons_succ, i64_w, i32_w]
  rfl
 refine pure_ (i := 8) (N := some 32) (v := ?_) (a' := ?_) #[false, true, true, true, true, true, true, false, true, false, false, false] rfl rfl (any_of HT_.out (by kernel_rfl)) (fun _ _ _ h => h) (Or.inl ⟨by rfl, ?_⟩) ?_ ?_
 rotate_left
 ·intro w'
  go_simp
  with_reducible rfl
 rotate_left
 ·simp only [Act.put, List.setIfInBounds_toArray, List.set_cons_zero, List.set_cons_succ, i64_w, i32_w]
  rfl
 refine take_ (i := 0) (N := some 24) (v := ?_) (a' := ?_) #[true, true, true, true, true, true, true, false, true, false, false, false] rfl rfl (take_ofW HT_.out HW_.out (by kernel_rfl)) (fun _ _ _ h => h) (Or.inl ⟨by rfl, ?_⟩) hHeld ?_ ?_
 rotate_left
 ·rintro w' ⟨s0, s1, s2⟩
  go_simp
  with_reducible rfl
 rotate_left
 ·simp only [Act.put, List.setIfInBounds_toArray, List.set_cons_zero, List.set_cons_succ, i64_w, i32_w]
  rfl
 refine one_ (i := 7) (N := some 31) #[true, true, true, true, true, true, true, true, true, false, false, false] rfl rfl (one_of HT_.out (by kernel_rfl)) (by decide) (fun K hK => ?_)
 refine goes_ Try.func50 (by kernel_rfl) rfl #[.pointer (some ⟨g, 0, none⟩), .int .i64 3] (by rfl) rfl rfl ab1_ ?_
 with_reducible refine (spec_l6Rd_pick.calls k g s0_0 t251 3 t252 t253 w0 _ ?side1 ?side2 A9.out).mono ?_
 (case side1 => exact ab64_)
 (case side2 => repeat (first | (with_reducible first | exact HB.out | apply below_alloc | apply pw_below_drewN | apply below_drew1 | refine below_set ?_ (IsS66.ge HI0.out) | refine below_set ?_ GE236.out | refine below_set ?_ GE245.out) | exact HB.out))
 rintro e w22 ⟨rfl, hi, hb, hk⟩
 refine ⟨_, rfl, ?_⟩
 have n0_ := am (KeepBut.blk hk (g' := gb236) (o := .cells #[.int .i64 0, .int .i64 0, .int .i64 0, .int .i64 0, .int .i64 0, .slice none 0 0, .slice none 0 0, .slice none 0 0] 37 (0, 0)) (aG_ BK236.out) NB236_0.out (by simp))
 have n1_ := am (Kd.N_mono (Kd.N_keep (Kd.N_mono (ok := fun k_ => (((((w.heap.size ≤ k_)) ∧ (k_ ≠ gb236 ∧ k_ ≠ g)) ∧ k_ ≠ gb245) ∧ some k_ ≠ (v249 : Value).ownBlock)) (aN_ HO243.out) (fun k_ hk_ => (⟨hk_, hk_.1.1.2.2⟩ : _ ∧ k_ ≠ g))) hk (fun _ h => h.2)) (fun _ h => h.1))
 have n2_ := am (KeepBut.blk hk (g' := gb245) (o := .cells #[.int .i64 t239, .int .i64 t240, .slice Ao18 t241.length co18] 34 (0, 0)) (aG_ BK245.out) NB245_0.out (by simp))
 have n3_ := am (Kd.N_mono (Kd.N_keep (Kd.N_mono (ok := fun k_ => (((w.heap.size ≤ k_)) ∧ (some k_ ≠ (.slice Ao18 t241.length co18 : Value).ownBlock ∧ (k_ ≠ gb236 ∧ (k_ ≠ gb245 ∧ k_ ≠ g))))) (aN_ HO250.out) (fun k_ hk_ => (⟨hk_, hk_.2.2.2.2⟩ : _ ∧ k_ ≠ g))) hk (fun _ h => h.2)) (fun _ h => h.1))
 have n4_ := am (KeepBut.trans ab28_ hk (.inl rfl))
 have n5_ := am (hb)
 have n6_ := am (hi)
 clear BK236
 clear HO243
 clear BK245
 clear HO250
 clear HK
 clear HB
 clear HI0
 have BK236 := n0_
 have HO243 := n1_
 have BK245 := n2_
 have HO250 := n3_
 have HK := n4_
 have HB := n5_
 have HI0 := n6_
 clear n0_ n1_ n2_ n3_ n4_ n5_ n6_
 (try clear hb)
 (try clear hb2)
 (try clear hk)
 (try clear hi)
 refine hK.out _ _ ⟨(blk_cell BK245.out 0).trans rfl, (blk_cell BK245.out 1).trans rfl, (blk_cell BK245.out 2).trans rfl⟩ (fun hHeld => ?_)
 clear hK K
 refine norm_ (a' := ?_) ?_ ?_
 rotate_left
 ·show Act.put _ (some 31) _ = _
  simp only [Act.put, List.setIfInBounds_toArray, List.set_cons_zero, List.set_cons_succ, i64_w, i32_w]
  rfl
 refine one_ (i := 9) (N := some 33) #[true, true, true, true, true, true, true, true, true, true, false, false] rfl rfl (one_of HT_.out (by kernel_rfl)) (by decide) (fun K hK => ?_)
 refine goes_ Try.func70 (by kernel_rfl) rfl #[.pointer (some ⟨g, 0, none⟩), .int .i64 a1, .int .i64 (wrap64 (a2 - 1)), .int .i64 t252, .bool a3] (by rfl) rfl rfl ab1_ ?_
 with_reducible refine (ih_spec_l92Block k (by omega) g s0_0 t253 a1 (wrap64 (a2 - 1)) t252 a3 t254 t257 w0 _ ?side1 ?side2 A10.out).mono ?_
 (case side1 => exact ab64_)
 (case side2 => repeat (first | (with_reducible first | exact HB.out | apply below_alloc | apply pw_below_drewN | apply below_drew1 | refine below_set ?_ (IsS66.ge HI0.out) | refine below_set ?_ GE236.out | refine below_set ?_ GE245.out) | exact HB.out))
 rintro e w23 ⟨v255, rfl, ho0, hi, hb, hk⟩
 refine ⟨_, rfl, ?_⟩
 have n0_ := am (KeepBut.blk hk (g' := gb236) (o := .cells #[.int .i64 0, .int .i64 0, .int .i64 0, .int .i64 0, .int .i64 0, .slice none 0 0, .slice none 0 0, .slice none 0 0] 37 (0, 0)) (aG_ BK236.out) NB236_0.out (by simp))
 have n1_ := am (Kd.N_mono (Kd.N_told (Kd.N_oldK (Kd.N_mono (ok := fun k_ => (((((w.heap.size ≤ k_)) ∧ (k_ ≠ gb236 ∧ k_ ≠ g)) ∧ k_ ≠ gb245) ∧ some k_ ≠ (v249 : Value).ownBlock)) (aN_ HO243.out) (fun k_ hk_ => (⟨hk_, hk_.1.1.2.2⟩ : _ ∧ k_ ≠ g))) hk) (by first | exact Kd.N_base ho0 | exact Kd.N_base (Kd.R_N ho0))) (fun _ h_ => h_.1))
 have n2_ := am (KeepBut.blk hk (g' := gb245) (o := .cells #[.int .i64 t239, .int .i64 t240, .slice Ao18 t241.length co18] 34 (0, 0)) (aG_ BK245.out) NB245_0.out (by simp))
 have n3_ := am (Kd.N_mono (Kd.N_told (Kd.N_oldK (Kd.N_mono (ok := fun k_ => (((w.heap.size ≤ k_)) ∧ (some k_ ≠ (.slice Ao18 t241.length co18 : Value).ownBlock ∧ (k_ ≠ gb236 ∧ (k_ ≠ gb245 ∧ k_ ≠ g))))) (aN_ HO250.out) (fun k_ hk_ => (⟨hk_, hk_.2.2.2.2⟩ : _ ∧ k_ ≠ g))) hk) (by first | exact Kd.N_base ho0 | exact Kd.N_base (Kd.R_N ho0))) (fun _ h_ => h_.1))
 have n4_ := am (Kd.N_lower (Kd.N_mono (ok' := fun k_ => (w.heap.size ≤ k_) ∧ some k_ ≠ (.slice Ao18 t241.length co18 : Value).ownBlock ∧ some k_ ≠ (v249 : Value).ownBlock ∧ k_ ≠ gb236 ∧ k_ ≠ gb245 ∧ k_ ≠ g) ho0 (fun k_ hk_ => ⟨(Nat.le_trans (keep_size (w := w) (g := g) (row := none) ab28_) hk_), (Kd.fresh' (Kd.N_lt (aN_ HO243.out)) k_ hk_), (Kd.fresh' (Kd.N_lt (aN_ HO250.out)) k_ hk_), (Kd.freshB (g := gb236) (o := .cells #[.int .i64 0, .int .i64 0, .int .i64 0, .int .i64 0, .int .i64 0, .slice none 0 0, .slice none 0 0, .slice none 0 0] 37 (0, 0)) (aG_ BK236.out) k_ hk_), (Kd.freshB (g := gb245) (o := .cells #[.int .i64 t239, .int .i64 t240, .slice Ao18 t241.length co18] 34 (0, 0)) (aG_ BK245.out) k_ hk_), (IsS66.fresh ab64_ k_ hk_)⟩)) (keep_size (w := w) (g := g) (row := none) ab28_))
 have n5_ := am (KeepBut.trans ab28_ hk (.inl rfl))
 have n6_ := am (hb)
 have n7_ := am (hi)
 clear BK236
 clear HO243
 clear BK245
 clear HO250
 clear HK
 clear HB
 clear HI0
 have BK236 := n0_
 have HO243 := n1_
 have BK245 := n2_
 have HO250 := n3_
 have HO256 := n4_
 have HK := n5_
 have HB := n6_
 have HI0 := n7_
 clear n0_ n1_ n2_ n3_ n4_ n5_ n6_ n7_
 (try clear hb)
 (try clear hb2)
 (try clear hk)
 (try clear hi)
 (try clear ho0)
 obtain ⟨Ao24, co24, eo24⟩ := Kd.N_slice HO256.out
 (first | subst eo24 | (injection eo24 with f1_ f2_ f3_; have f4_ := f1_.symm; have f5_ := f3_.symm; clear f1_ f2_ f3_; subst f4_; subst f5_))
 obtain ⟨Ao25, co25, eo25⟩ := Kd.N_slice HO250.out
 (first | subst eo25 | (injection eo25 with f1_ f2_ f3_; have f4_ := f1_.symm; have f5_ := f3_.symm; clear f1_ f2_ f3_; subst f4_; subst f5_))
 refine hK.out _ _ ⟨(blk_cell BK245.out 0).trans rfl, (blk_cell BK245.out 1).trans rfl, (blk_cell BK245.out 2).trans rfl⟩ (fun hHeld => ?_)
 clear hK K
 refine norm_ (a' := ?_) ?_ ?_
 rotate_left
 ·show Act.put _ (some 33) _ = _
  simp only [Act.put, List.setIfInBounds_toArray, List.set_cons_zero, List.set_cons_succ, i64_w, i32_w]
  rfl
 refine pure_ (i := 10) (N := some 34) (v := ?_) (a' := ?_) #[true, true, true, true, true, true, true, true, true, true, true, false] rfl rfl (any_of HT_.out (by kernel_rfl)) (fun _ _ _ h => h) (Or.inl ⟨by rfl, ?_⟩) ?_ ?_
 rotate_left
 ·intro w'
  go_simp
  with_reducible rfl
 rotate_left
 ·simp only [Act.put, List.setIfInBounds_toArray, List.set_cons_zero, List.set_cons_succ, i64_w, i32_w]
  rfl
 refine one_ (i := 11) (N := none) #[true, true, true, true, true, true, true, true, true, true, true, true] rfl rfl (one_of HT_.out (by kernel_rfl)) (by decide) (fun K hK => ?_)
 have hs26 : w23.cell? ⟨gb236, 0, none⟩ = some (.int .i64 0) := (blk_cell BK236.out 0).trans rfl
 have hfs26 := blk_frozen BK236.out 0
 have hns26_1 := NB245_236.out
 have hms26_1 := NB236_245.out
 have hs27 : w23.cell? ⟨gb236, 1, none⟩ = some (.int .i64 0) := (blk_cell BK236.out 1).trans rfl
 have hfs27 := blk_frozen BK236.out 1
 have hns27_1 := NB245_236.out
 have hms27_1 := NB236_245.out
 have hs28 : w23.cell? ⟨gb236, 2, none⟩ = some (.int .i64 0) := (blk_cell BK236.out 2).trans rfl
 have hfs28 := blk_frozen BK236.out 2
 have hns28_1 := NB245_236.out
 have hms28_1 := NB236_245.out
 have hs29 : w23.cell? ⟨gb236, 3, none⟩ = some (.int .i64 0) := (blk_cell BK236.out 3).trans rfl
 have hfs29 := blk_frozen BK236.out 3
 have hns29_1 := NB245_236.out
 have hms29_1 := NB236_245.out
 have hs30 : w23.cell? ⟨gb236, 4, none⟩ = some (.int .i64 0) := (blk_cell BK236.out 4).trans rfl
 have hfs30 := blk_frozen BK236.out 4
 have hns30_1 := NB245_236.out
 have hms30_1 := NB236_245.out
 have hs31 : w23.cell? ⟨gb236, 5, none⟩ = some (.slice none 0 0) := (blk_cell BK236.out 5).trans rfl
 have hfs31 := blk_frozen BK236.out 5
 have hns31_1 := NB245_236.out
 have hms31_1 := NB236_245.out
 have hs32 : w23.cell? ⟨gb236, 6, none⟩ = some (.slice none 0 0) := (blk_cell BK236.out 6).trans rfl
 have hfs32 := blk_frozen BK236.out 6
 have hns32_1 := NB245_236.out
 have hms32_1 := NB236_245.out
 have hs33 : w23.cell? ⟨gb236, 7, none⟩ = some (.slice none 0 0) := (blk_cell BK236.out 7).trans rfl
 have hfs33 := blk_frozen BK236.out 7
 have hns33_1 := NB245_236.out
 have hms33_1 := NB236_245.out
 refine skip_ (w1 := ?_) (by rfl) rfl ?_ ?_
 rotate_left
 ·go_simp
  rfl
 refine hK.out _ _ ⟨((cell_far (p := ⟨gb236, _, none⟩) NB245_236.out _).trans (((cell_far (p := ⟨gb236, _, none⟩) NB245_236.out _).trans (((cell_far (p := ⟨gb236, _, none⟩) NB245_236.out _).trans (((cell_far (p := ⟨gb236, _, none⟩) NB245_236.out _).trans (((cell_far (p := ⟨gb236, _, none⟩) NB245_236.out _).trans (((cell_far (p := ⟨gb236, _, none⟩) NB245_236.out _).trans (((cell_far (p := ⟨gb236, _, none⟩) NB245_236.out _).trans (((cell_far (p := ⟨gb236, _, none⟩) NB245_236.out _).trans (hHeld.1)))))))))))))))), ((cell_far (p := ⟨gb236, _, none⟩) NB245_236.out _).trans (((cell_far (p := ⟨gb236, _, none⟩) NB245_236.out _).trans (((cell_far (p := ⟨gb236, _, none⟩) NB245_236.out _).trans (((cell_far (p := ⟨gb236, _, none⟩) NB245_236.out _).trans (((cell_far (p := ⟨gb236, _, none⟩) NB245_236.out _).trans (((cell_far (p := ⟨gb236, _, none⟩) NB245_236.out _).trans (((cell_far (p := ⟨gb236, _, none⟩) NB245_236.out _).trans (((cell_far (p := ⟨gb236, _, none⟩) NB245_236.out _).trans (hHeld.2.1)))))))))))))))), ((cell_far (p := ⟨gb236, _, none⟩) NB245_236.out _).trans (((cell_far (p := ⟨gb236, _, none⟩) NB245_236.out _).trans (((cell_far (p := ⟨gb236, _, none⟩) NB245_236.out _).trans (((cell_far (p := ⟨gb236, _, none⟩) NB245_236.out _).trans (((cell_far (p := ⟨gb236, _, none⟩) NB245_236.out _).trans (((cell_far (p := ⟨gb236, _, none⟩) NB245_236.out _).trans (((cell_far (p := ⟨gb236, _, none⟩) NB245_236.out _).trans (((cell_far (p := ⟨gb236, _, none⟩) NB245_236.out _).trans (hHeld.2.2))))))))))))))))⟩ (fun hHeld => ?_)
 clear hK K
 refine done_ (done_of HT_.out (by kernel_rfl)) ?_
 try go_wp2
 refine bodyPost_ret (results_cell_row rfl _ _ gb236 37 #[.int .i64 2, .int .i64 0, .int .i64 0, .int .i64 t239, .int .i64 t240, .slice Ao18 t241.length co18, .slice Ao25 t248.length co25, .slice Ao24 t254.length co24] (0, 0) _ rfl (by (with_reducible repeat (first | refine blk_drewN ?_ _ | refine blk_drew ?_ | refine blk_alloc ?_ _)); refine blk_put (cs := #[.int .i64 2, .int .i64 0, .int .i64 0, .int .i64 t239, .int .i64 t240, .slice Ao18 t241.length co18, .slice Ao25 t248.length co25, .slice none 0 0]) ?_ 7 _ rfl; (with_reducible repeat (first | refine blk_drewN ?_ _ | refine blk_drew ?_ | refine blk_alloc ?_ _)); refine blk_put (cs := #[.int .i64 2, .int .i64 0, .int .i64 0, .int .i64 t239, .int .i64 t240, .slice Ao18 t241.length co18, .slice none 0 0, .slice none 0 0]) ?_ 6 _ rfl; (with_reducible repeat (first | refine blk_drewN ?_ _ | refine blk_drew ?_ | refine blk_alloc ?_ _)); refine blk_put (cs := #[.int .i64 2, .int .i64 0, .int .i64 0, .int .i64 t239, .int .i64 t240, .slice none 0 0, .slice none 0 0, .slice none 0 0]) ?_ 5 _ rfl; (with_reducible repeat (first | refine blk_drewN ?_ _ | refine blk_drew ?_ | refine blk_alloc ?_ _)); refine blk_put (cs := #[.int .i64 2, .int .i64 0, .int .i64 0, .int .i64 t239, .int .i64 0, .slice none 0 0, .slice none 0 0, .slice none 0 0]) ?_ 4 _ rfl; (with_reducible repeat (first | refine blk_drewN ?_ _ | refine blk_drew ?_ | refine blk_alloc ?_ _)); refine blk_put (cs := #[.int .i64 2, .int .i64 0, .int .i64 0, .int .i64 0, .int .i64 0, .slice none 0 0, .slice none 0 0, .slice none 0 0]) ?_ 3 _ rfl; (with_reducible repeat (first | refine blk_drewN ?_ _ | refine blk_drew ?_ | refine blk_alloc ?_ _)); refine blk_put (cs := #[.int .i64 2, .int .i64 0, .int .i64 0, .int .i64 0, .int .i64 0, .slice none 0 0, .slice none 0 0, .slice none 0 0]) ?_ 2 _ rfl; (with_reducible repeat (first | refine blk_drewN ?_ _ | refine blk_drew ?_ | refine blk_alloc ?_ _)); refine blk_put (cs := #[.int .i64 2, .int .i64 0, .int .i64 0, .int .i64 0, .int .i64 0, .slice none 0 0, .slice none 0 0, .slice none 0 0]) ?_ 1 _ rfl; (with_reducible repeat (first | refine blk_drewN ?_ _ | refine blk_drew ?_ | refine blk_alloc ?_ _)); refine blk_put (cs := #[.int .i64 0, .int .i64 0, .int .i64 0, .int .i64 0, .int .i64 0, .slice none 0 0, .slice none 0 0, .slice none 0 0]) ?_ 0 _ rfl; (with_reducible repeat (first | refine blk_drewN ?_ _ | refine blk_drew ?_ | refine blk_alloc ?_ _)); exact BK236.out) Try.underlying37 rfl (by kernel_rfl)) rfl ?_
 exact ⟨_, _, _, ab14_, by (with_reducible repeat (first | apply Kd.N_alloc | apply Kd.N_drewN | apply Kd.N_drew)); exact Kd.N_mono (Kd.N_far (p := ⟨gb236, 7, none⟩) (Kd.N_far (p := ⟨gb236, 6, none⟩) (Kd.N_far (p := ⟨gb236, 5, none⟩) (Kd.N_far (p := ⟨gb236, 4, none⟩) (Kd.N_far (p := ⟨gb236, 3, none⟩) (Kd.N_far (p := ⟨gb236, 2, none⟩) (Kd.N_far (p := ⟨gb236, 1, none⟩) (Kd.N_far (p := ⟨gb236, 0, none⟩) (Kd.N_mono HO243.out (fun k_ hk => (⟨hk, hk.1.1.1.2.1⟩ : _ ∧ k_ ≠ gb236))) (fun _ hk => hk.2) (.int .i64 2)) (fun _ hk => hk.2) (.int .i64 0)) (fun _ hk => hk.2) (.int .i64 0)) (fun _ hk => hk.2) (.int .i64 t239)) (fun _ hk => hk.2) (.int .i64 t240)) (fun _ hk => hk.2) (.slice Ao18 t241.length co18)) (fun _ hk => hk.2) (.slice Ao25 t248.length co25)) (fun _ hk => hk.2) (.slice Ao24 t254.length co24)) (fun _ hk => ⟨hk.1.1.1.1.1, ⟨hk.1.1.2, hk.1.2⟩⟩), by (with_reducible repeat (first | apply Kd.N_alloc | apply Kd.N_drewN | apply Kd.N_drew)); exact Kd.N_mono (Kd.N_far (p := ⟨gb236, 7, none⟩) (Kd.N_far (p := ⟨gb236, 6, none⟩) (Kd.N_far (p := ⟨gb236, 5, none⟩) (Kd.N_far (p := ⟨gb236, 4, none⟩) (Kd.N_far (p := ⟨gb236, 3, none⟩) (Kd.N_far (p := ⟨gb236, 2, none⟩) (Kd.N_far (p := ⟨gb236, 1, none⟩) (Kd.N_far (p := ⟨gb236, 0, none⟩) (Kd.N_mono HO250.out (fun k_ hk => (⟨hk, hk.1.2.2.1⟩ : _ ∧ k_ ≠ gb236))) (fun _ hk => hk.2) (.int .i64 2)) (fun _ hk => hk.2) (.int .i64 0)) (fun _ hk => hk.2) (.int .i64 0)) (fun _ hk => hk.2) (.int .i64 t239)) (fun _ hk => hk.2) (.int .i64 t240)) (fun _ hk => hk.2) (.slice Ao18 t241.length co18)) (fun _ hk => hk.2) (.slice Ao25 t248.length co25)) (fun _ hk => hk.2) (.slice Ao24 t254.length co24)) (fun _ hk => ⟨hk.1.1.1, ⟨hk.1.1.2.1, hk.1.2⟩⟩), by (with_reducible repeat (first | apply Kd.N_alloc | apply Kd.N_drewN | apply Kd.N_drew)); exact Kd.N_mono (Kd.N_far (p := ⟨gb236, 7, none⟩) (Kd.N_far (p := ⟨gb236, 6, none⟩) (Kd.N_far (p := ⟨gb236, 5, none⟩) (Kd.N_far (p := ⟨gb236, 4, none⟩) (Kd.N_far (p := ⟨gb236, 3, none⟩) (Kd.N_far (p := ⟨gb236, 2, none⟩) (Kd.N_far (p := ⟨gb236, 1, none⟩) (Kd.N_far (p := ⟨gb236, 0, none⟩) (Kd.N_mono HO256.out (fun k_ hk => (⟨hk, hk.2.2.2.1⟩ : _ ∧ k_ ≠ gb236))) (fun _ hk => hk.2) (.int .i64 2)) (fun _ hk => hk.2) (.int .i64 0)) (fun _ hk => hk.2) (.int .i64 0)) (fun _ hk => hk.2) (.int .i64 t239)) (fun _ hk => hk.2) (.int .i64 t240)) (fun _ hk => hk.2) (.slice Ao18 t241.length co18)) (fun _ hk => hk.2) (.slice Ao25 t248.length co25)) (fun _ hk => hk.2) (.slice Ao24 t254.length co24)) (fun _ hk => ⟨hk.1.1, ⟨hk.1.2.1, hk.1.2.2.1⟩⟩), ab64_, by repeat (first | (with_reducible first | exact HB.out | apply below_alloc | apply pw_below_drewN | apply below_drew1 | refine below_set ?_ (IsS66.ge HI0.out) | refine below_set ?_ GE236.out | refine below_set ?_ GE245.out) | exact HB.out), ab28_⟩
theorem spec_l92Stmt.step (k : Nat) (ih_spec_l92If : ∀ m, m < k → spec_l92If.CallsAt m) (ih_spec_l92Loop : ∀ m, m < k → spec_l92Loop.CallsAt m) (ih_spec_l92Stmt : ∀ m, m < k → spec_l92Stmt.CallsAt m) (ih_spec_l92Block : ∀ m, m < k → spec_l92Block.CallsAt m) : spec_l92Stmt.CallsAt k := by
 intro g s0_0 s0_1 a1 a2 a3 r1 r2 w0 w hI hB h
 cases k with
 | zero => exact absurd h (by simp [spec_l92Stmt.f])
 | succ k =>
 simp only [spec_l92Stmt.f] at h
 have hu37 := Try.underlying37
 have HI0 := am hI
 have HK := am (KeepBut.refl w g none)
 have HL := am hB.size
 clear hI
 have HW0 := am hB.size
 have HB := am hB
 clear hB
 have H : ((spec_l6Rd_pick.f k s0_0 s0_1 10).bind fun bt312 => (if bt312.1 = 0 then (spec_l92Stmt.j0 k a1 a2 a3 bt312.1 (bt312.1 == 0) s0_0 bt312.2) else (spec_l92Stmt.j0 k a1 a2 a3 bt312.1 (bt312.1 == 1) s0_0 bt312.2))) = some (r1, r2) := h
 clear h
 obtain ⟨⟨t312, t313⟩, A50, H⟩ := bsm H
 (try dsimp only at H)
 have A5 := am A50
 clear A50
 have HC6 := am H
 clear H
 go_enter Try.func80, Try.ntmps80
 go_upto_if 11 with (first | ((with_reducible refine gate_callee (f := 50) rfl ?_); refine goesL_ (some 10) rfl rfl Try.func50 (by kernel_rfl) rfl #[.pointer (some ⟨g, 0, none⟩), .int .i64 10] rfl ab1_ ?_; (with_reducible refine (spec_l6Rd_pick.calls k g s0_0 s0_1 10 t312 t313 w0 _ ?side1 ?side2 A5.out).mono ?_); (case side1 => exact ab4_); (case side2 => exact ab5_); rintro e w7 ⟨rfl, hi, hb, hk⟩; refine ⟨_, rfl, ?_⟩; have n0_ := am (KeepBut.trans ab3_ hk (.inl rfl)); have n1_ := am (hb); have n2_ := am (hi); clear HK HB HI0; have HK := n0_; have HB := n1_; have HI0 := n2_; clear n0_ n1_ n2_; (try clear hb); (try clear hb2); (try clear hk); (try clear hi)))
 (try simp only [Act.put, List.setIfInBounds_toArray, List.set_cons_zero, List.set_cons_succ])
 go_cut [11] (fun v11 wc => ∃ (kq : Nat) (x11_5 : Bool), v11 = .bool x11_5 ∧ Aside0 (spec_l92Stmt.j0 kq a1 a2 a3 t312 x11_5 s0_0 t313 = some (r1, r2)) ∧ Aside0 (kq ≤ k) ∧ Aside0 (IsS66 w0 wc g s0_0 t313) ∧ Aside0 (KeepBut w wc g none) ∧ Aside0 (Below w0.heap.size w0 wc))
 case first =>
  have H := HC6.out
  clear HC6
  by_cases c8 : t312 = 0
  ·rw [if_pos c8] at H
   have c8b0 : (t312 == 0) = true := beq_iff_eq.mpr c8
   have c8b1 : (t312 != 0) = false := bne_eq_false_iff_eq.mpr c8
   clear c8
   (first | rw [c8b0] | (simp only [i64_w, i32_w]; rw [c8b0]) | skip)
   have H' := am H
   clear H
   go_wp2
   go_meet
   case rel => exact ⟨_, ((t312 == 0)), (by first | rfl | (simp; done) | (simp [*]; done)), H', ⟨by first | omega | exact Nat.le_refl _⟩, ⟨ab4_⟩, ⟨ab3_⟩, ⟨ab5_⟩⟩
  rw [if_neg c8] at H
  have c8b0 : (t312 == 0) = false := beq_eq_false_iff_ne.mpr c8
  have c8b1 : (t312 != 0) = true := bne_iff_ne.mpr c8
  (first | rw [c8b0] | (simp only [i64_w, i32_w]; rw [c8b0]) | skip)
  have H' := am H
  clear H
  go_wp2
  go_meet
  case rel => exact ⟨_, ((t312 == 1)), (by first | rfl | (simp; done) | (simp [*]; done)), H', ⟨by first | omega | exact Nat.le_refl _⟩, ⟨ab4_⟩, ⟨ab3_⟩, ⟨ab5_⟩⟩
 case rest =>
  clear HC6
  obtain ⟨kq, x11_5, rfl, HA, HJ5, HI0, HK, HB⟩ := hcut
  cases kq with
  | zero => exact absurd HA.out (by simp [spec_l92Stmt.j0])
  | succ kj5 =>
   have H := HA.out
   clear HA
   simp only [spec_l92Stmt.j0] at H
   by_cases c9 : x11_5 = true
   ·subst c9
    rw [if_pos rfl] at H
    obtain ⟨⟨t314, t315, t316, t317, t318, t319, t322, t325, t328⟩, A100, H⟩ := bsm H
    (try dsimp only at H)
    have A10 := am A100
    clear A100
    obtain ⟨y329, hy329⟩ : ∃ y_ : List (S37), y_ = (([(⟨t314, t315, t316, (⟨t317, t318, t319⟩ : S34), t322, t325⟩ : S37)] : List (S37))) := ⟨_, rfl⟩
    replace H : (some (y329, t328)) = some (r1, r2) := by first | (rw [hy329]; with_reducible exact H) | (have H2_ := (Option.bind_some _ _).symm.trans H; rw [hy329]; with_reducible exact H2_) | (have H2_ := (Option.bind_some _ _).symm.trans H; with_reducible exact H2_) | with_reducible exact H | (rw [hy329]; exact H) | exact H
    have Ny329 := am hy329
    clear hy329
    simp only [Option.some.injEq, Prod.mk.injEq] at H
    obtain ⟨rfl, rfl⟩ := H
    go_wp2_with (first | ((with_reducible refine gate_callee (f := 87) rfl ?_); refine goesL_ (some 15) rfl rfl Try.func87 (by kernel_rfl) rfl #[.pointer (some ⟨g, 0, none⟩)] rfl ab1_ ?_; (with_reducible refine (spec_l92Set.calls kj5 g s0_0 t313 t314 t315 t316 t317 t318 t319 t322 t325 t328 w0 _ ?side1 ?side2 A10.out).mono ?_); (case side1 => exact ab4_); (case side2 => exact ab5_); rintro e w11 ⟨v320, v323, v326, rfl, ho0, ho1, ho2, hi, hb, hk⟩; refine ⟨_, rfl, ?_⟩; have n0_ := am (Kd.N_lower (Kd.N_mono (ok' := fun k_ => (w.heap.size ≤ k_) ∧ some k_ ≠ (v323 : Value).ownBlock ∧ some k_ ≠ (v326 : Value).ownBlock ∧ k_ ≠ g) ho0 (fun k_ hk_ => ⟨(Nat.le_trans (keep_size (w := w) (g := g) (row := none) ab3_) hk_.1), hk_.2.1, hk_.2.2, (IsS66.fresh ab4_ k_ hk_.1)⟩)) (keep_size (w := w) (g := g) (row := none) ab3_)); have n1_ := am (Kd.N_lower (Kd.N_mono (ok' := fun k_ => (w.heap.size ≤ k_) ∧ some k_ ≠ (v320 : Value).ownBlock ∧ some k_ ≠ (v326 : Value).ownBlock ∧ k_ ≠ g) ho1 (fun k_ hk_ => ⟨(Nat.le_trans (keep_size (w := w) (g := g) (row := none) ab3_) hk_.1), hk_.2.1, hk_.2.2, (IsS66.fresh ab4_ k_ hk_.1)⟩)) (keep_size (w := w) (g := g) (row := none) ab3_)); have n2_ := am (Kd.N_lower (Kd.N_mono (ok' := fun k_ => (w.heap.size ≤ k_) ∧ some k_ ≠ (v320 : Value).ownBlock ∧ some k_ ≠ (v323 : Value).ownBlock ∧ k_ ≠ g) ho2 (fun k_ hk_ => ⟨(Nat.le_trans (keep_size (w := w) (g := g) (row := none) ab3_) hk_.1), hk_.2.1, hk_.2.2, (IsS66.fresh ab4_ k_ hk_.1)⟩)) (keep_size (w := w) (g := g) (row := none) ab3_)); have n3_ := am (KeepBut.trans ab3_ hk (.inl rfl)); have n4_ := am (hb); have n5_ := am (hi); clear HK HB HI0; have HO321 := n0_; have HO324 := n1_; have HO327 := n2_; have HK := n3_; have HB := n4_; have HI0 := n5_; clear n0_ n1_ n2_ n3_ n4_ n5_; (try clear hb); (try clear hb2); (try clear hk); (try clear hi); (try clear ho0); (try clear ho1); (try clear ho2); obtain ⟨Ao12, co12, eo12⟩ := Kd.N_slice HO321.out; subst eo12; obtain ⟨Ao13, co13, eo13⟩ := Kd.N_slice HO324.out; subst eo13; obtain ⟨Ao14, co14, eo14⟩ := Kd.N_slice HO327.out; subst eo14) | ((with_reducible refine gate_dst (N := 16) rfl ?_); refine Kd.N_lit k37 _ 37 ?hg (N' := 16) ?hd (xs := ([(⟨t314, t315, t316, (⟨t317, t318, t319⟩ : S34), t322, t325⟩ : S37)] : List (S37))) (inner := [.int .i64 t314, .int .i64 t315, .int .i64 t316, .int .i64 t317, .int .i64 t318, .slice Ao12 t319.length co12, .slice Ao13 t322.length co13, .slice Ao14 t325.length co14]) (ok := (fun k_ => (w.heap.size ≤ k_) ∧ k_ ≠ g)) (okp := (fun k_ => (w.heap.size ≤ k_) ∧ k_ ≠ g)) ?hr ?hp (fun _ hk => hk) ((show ∀ k_, w11.heap.size ≤ k_ → (fun k_ => (w.heap.size ≤ k_) ∧ k_ ≠ g) k_ from fun k_ hk => ⟨(Nat.le_trans (keep_size (w := w) (g := g) (row := none) ab3_) hk), IsS66.fresh ab4_ k_ hk⟩) _ (Nat.le_refl _)) (Below.refl _ _) (Nat.le_refl _) (by simp) ?_; (case hd => rfl); (case hg => rfl); (case hr => first | (go_simp; done) | (go_simp; rfl)); (case hp => exact (Reps.c8 (show Kd.FK k37 _ _ (⟨t314, t315, t316, (⟨t317, t318, t319⟩ : S34), t322, t325⟩ : S37) [.int .i64 t314, .int .i64 t315, .int .i64 t316, .int .i64 t317, .int .i64 t318, .slice Ao12 t319.length co12, .slice Ao13 t322.length co13, .slice Ao14 t325.length co14] from (k37_mkF _ _ (⟨t314, t315, t316, (⟨t317, t318, t319⟩ : S34), t322, t325⟩ : S37) (Kd.N_reads' (Kd.N_mono (ok' := (fun k_ => (w.heap.size ≤ k_) ∧ k_ ≠ g)) (HO321.out) (fun k_ hk => ⟨hk.1, hk.2.2.2⟩))).2.1 (Kd.N_F (Kd.N_mono (ok' := (fun k_ => (w.heap.size ≤ k_) ∧ k_ ≠ g)) (HO321.out) (fun k_ hk => ⟨hk.1, hk.2.2.2⟩))) (Kd.N_reads' (Kd.N_mono (ok' := (fun k_ => (w.heap.size ≤ k_) ∧ k_ ≠ g)) (HO324.out) (fun k_ hk => ⟨hk.1, hk.2.2.2⟩))).2.1 (Kd.N_F (Kd.N_mono (ok' := (fun k_ => (w.heap.size ≤ k_) ∧ k_ ≠ g)) (HO324.out) (fun k_ hk => ⟨hk.1, hk.2.2.2⟩))) (Kd.N_reads' (Kd.N_mono (ok' := (fun k_ => (w.heap.size ≤ k_) ∧ k_ ≠ g)) (HO327.out) (fun k_ hk => ⟨hk.1, hk.2.2.2⟩))).2.1 (Kd.N_F (Kd.N_mono (ok' := (fun k_ => (w.heap.size ≤ k_) ∧ k_ ≠ g)) (HO327.out) (fun k_ hk => ⟨hk.1, hk.2.2.2⟩))))) (Reps.none _ _))); intro v330 w15 ho16 hb hg_ hnew_; clear hg_ hnew_; (first | rw [← Ny329.out] at ho16 | (simp only [Int.reduceToNat] at ho16; rw [← Ny329.out] at ho16)); have n0_ := am (Kd.N_lower ho16 (keep_size (w := w) (g := g) (row := none) ab3_)); have n1_ := am (IsS66.below ab4_ hb); have n2_ := am (KeepBut.trans ab3_ (KeepBut.of_below hb g none) (.inl rfl)); have n3_ := am (below_step ab5_ hb); clear HI0 HK HB HO321 HO324 HO327; have HO331 := n0_; have HI0 := n1_; have HK := n2_; have HB := n3_; clear n0_ n1_ n2_ n3_ hb ho16))
    go_ret
    exact ⟨_, ab14_, by (with_reducible repeat (first | apply Kd.N_alloc | apply Kd.N_drewN | apply Kd.N_drew)); exact Kd.N_mono HO331.out (fun _ hk => hk.1), ab4_, ab5_, ab3_⟩
   replace c9 := Bool.eq_false_iff.mpr c9
   subst c9
   rw [if_neg (show ¬ (false = true) by decide)] at H
   by_cases c17 : t312 = 2
   ·rw [if_pos c17] at H
    have c17b0 : (t312 == 2) = true := beq_iff_eq.mpr c17
    have c17b1 : (t312 != 2) = false := bne_eq_false_iff_eq.mpr c17
    clear c17
    by_cases c18 : a2 > 0
    ·rw [if_pos c18] at H
     have c18b0 : decide (0 < a2) = true := decide_eq_true c18
     clear c18
     obtain ⟨⟨t332, t333, t334, t335, t336, t337, t340, t343, t346⟩, A190, H⟩ := bsm H
     (try dsimp only at H)
     have A19 := am A190
     clear A190
     obtain ⟨y347, hy347⟩ : ∃ y_ : List (S37), y_ = (([(⟨t332, t333, t334, (⟨t335, t336, t337⟩ : S34), t340, t343⟩ : S37)] : List (S37))) := ⟨_, rfl⟩
     replace H : (some (y347, t346)) = some (r1, r2) := by first | (rw [hy347]; with_reducible exact H) | (have H2_ := (Option.bind_some _ _).symm.trans H; rw [hy347]; with_reducible exact H2_) | (have H2_ := (Option.bind_some _ _).symm.trans H; with_reducible exact H2_) | with_reducible exact H | (rw [hy347]; exact H) | exact H
     have Ny347 := am hy347
     clear hy347
     simp only [Option.some.injEq, Prod.mk.injEq] at H
     obtain ⟨rfl, rfl⟩ := H
     go_wp2_with (first | ((with_reducible refine gate_callee (f := 88) rfl ?_); refine goesL_ (some 25) rfl rfl Try.func88 (by kernel_rfl) rfl #[.pointer (some ⟨g, 0, none⟩), .int .i64 a1, .int .i64 a2, .bool a3] rfl ab1_ ?_; (with_reducible refine (ih_spec_l92If kj5 (by have := HJ5.out; omega) g s0_0 t313 a1 a2 a3 t332 t333 t334 t335 t336 t337 t340 t343 t346 w0 _ ?side1 ?side2 A19.out).mono ?_); (case side1 => exact ab4_); (case side2 => exact ab5_); rintro e w20 ⟨v338, v341, v344, rfl, ho0, ho1, ho2, hi, hb, hk⟩; refine ⟨_, rfl, ?_⟩; have n0_ := am (Kd.N_lower (Kd.N_mono (ok' := fun k_ => (w.heap.size ≤ k_) ∧ some k_ ≠ (v341 : Value).ownBlock ∧ some k_ ≠ (v344 : Value).ownBlock ∧ k_ ≠ g) ho0 (fun k_ hk_ => ⟨(Nat.le_trans (keep_size (w := w) (g := g) (row := none) ab3_) hk_.1), hk_.2.1, hk_.2.2, (IsS66.fresh ab4_ k_ hk_.1)⟩)) (keep_size (w := w) (g := g) (row := none) ab3_)); have n1_ := am (Kd.N_lower (Kd.N_mono (ok' := fun k_ => (w.heap.size ≤ k_) ∧ some k_ ≠ (v338 : Value).ownBlock ∧ some k_ ≠ (v344 : Value).ownBlock ∧ k_ ≠ g) ho1 (fun k_ hk_ => ⟨(Nat.le_trans (keep_size (w := w) (g := g) (row := none) ab3_) hk_.1), hk_.2.1, hk_.2.2, (IsS66.fresh ab4_ k_ hk_.1)⟩)) (keep_size (w := w) (g := g) (row := none) ab3_)); have n2_ := am (Kd.N_lower (Kd.N_mono (ok' := fun k_ => (w.heap.size ≤ k_) ∧ some k_ ≠ (v338 : Value).ownBlock ∧ some k_ ≠ (v341 : Value).ownBlock ∧ k_ ≠ g) ho2 (fun k_ hk_ => ⟨(Nat.le_trans (keep_size (w := w) (g := g) (row := none) ab3_) hk_.1), hk_.2.1, hk_.2.2, (IsS66.fresh ab4_ k_ hk_.1)⟩)) (keep_size (w := w) (g := g) (row := none) ab3_)); have n3_ := am (KeepBut.trans ab3_ hk (.inl rfl)); have n4_ := am (hb); have n5_ := am (hi); clear HK HB HI0; have HO339 := n0_; have HO342 := n1_; have HO345 := n2_; have HK := n3_; have HB := n4_; have HI0 := n5_; clear n0_ n1_ n2_ n3_ n4_ n5_; (try clear hb); (try clear hb2); (try clear hk); (try clear hi); (try clear ho0); (try clear ho1); (try clear ho2); obtain ⟨Ao21, co21, eo21⟩ := Kd.N_slice HO339.out; subst eo21; obtain ⟨Ao22, co22, eo22⟩ := Kd.N_slice HO342.out; subst eo22; obtain ⟨Ao23, co23, eo23⟩ := Kd.N_slice HO345.out; subst eo23) | ((with_reducible refine gate_dst (N := 26) rfl ?_); refine Kd.N_lit k37 _ 37 ?hg (N' := 26) ?hd (xs := ([(⟨t332, t333, t334, (⟨t335, t336, t337⟩ : S34), t340, t343⟩ : S37)] : List (S37))) (inner := [.int .i64 t332, .int .i64 t333, .int .i64 t334, .int .i64 t335, .int .i64 t336, .slice Ao21 t337.length co21, .slice Ao22 t340.length co22, .slice Ao23 t343.length co23]) (ok := (fun k_ => (w.heap.size ≤ k_) ∧ k_ ≠ g)) (okp := (fun k_ => (w.heap.size ≤ k_) ∧ k_ ≠ g)) ?hr ?hp (fun _ hk => hk) ((show ∀ k_, w20.heap.size ≤ k_ → (fun k_ => (w.heap.size ≤ k_) ∧ k_ ≠ g) k_ from fun k_ hk => ⟨(Nat.le_trans (keep_size (w := w) (g := g) (row := none) ab3_) hk), IsS66.fresh ab4_ k_ hk⟩) _ (Nat.le_refl _)) (Below.refl _ _) (Nat.le_refl _) (by simp) ?_; (case hd => rfl); (case hg => rfl); (case hr => first | (go_simp; done) | (go_simp; rfl)); (case hp => exact (Reps.c8 (show Kd.FK k37 _ _ (⟨t332, t333, t334, (⟨t335, t336, t337⟩ : S34), t340, t343⟩ : S37) [.int .i64 t332, .int .i64 t333, .int .i64 t334, .int .i64 t335, .int .i64 t336, .slice Ao21 t337.length co21, .slice Ao22 t340.length co22, .slice Ao23 t343.length co23] from (k37_mkF _ _ (⟨t332, t333, t334, (⟨t335, t336, t337⟩ : S34), t340, t343⟩ : S37) (Kd.N_reads' (Kd.N_mono (ok' := (fun k_ => (w.heap.size ≤ k_) ∧ k_ ≠ g)) (HO339.out) (fun k_ hk => ⟨hk.1, hk.2.2.2⟩))).2.1 (Kd.N_F (Kd.N_mono (ok' := (fun k_ => (w.heap.size ≤ k_) ∧ k_ ≠ g)) (HO339.out) (fun k_ hk => ⟨hk.1, hk.2.2.2⟩))) (Kd.N_reads' (Kd.N_mono (ok' := (fun k_ => (w.heap.size ≤ k_) ∧ k_ ≠ g)) (HO342.out) (fun k_ hk => ⟨hk.1, hk.2.2.2⟩))).2.1 (Kd.N_F (Kd.N_mono (ok' := (fun k_ => (w.heap.size ≤ k_) ∧ k_ ≠ g)) (HO342.out) (fun k_ hk => ⟨hk.1, hk.2.2.2⟩))) (Kd.N_reads' (Kd.N_mono (ok' := (fun k_ => (w.heap.size ≤ k_) ∧ k_ ≠ g)) (HO345.out) (fun k_ hk => ⟨hk.1, hk.2.2.2⟩))).2.1 (Kd.N_F (Kd.N_mono (ok' := (fun k_ => (w.heap.size ≤ k_) ∧ k_ ≠ g)) (HO345.out) (fun k_ hk => ⟨hk.1, hk.2.2.2⟩))))) (Reps.none _ _))); intro v348 w24 ho25 hb hg_ hnew_; clear hg_ hnew_; (first | rw [← Ny347.out] at ho25 | (simp only [Int.reduceToNat] at ho25; rw [← Ny347.out] at ho25)); have n0_ := am (Kd.N_lower ho25 (keep_size (w := w) (g := g) (row := none) ab3_)); have n1_ := am (IsS66.below ab4_ hb); have n2_ := am (KeepBut.trans ab3_ (KeepBut.of_below hb g none) (.inl rfl)); have n3_ := am (below_step ab5_ hb); clear HI0 HK HB HO339 HO342 HO345; have HO349 := n0_; have HI0 := n1_; have HK := n2_; have HB := n3_; clear n0_ n1_ n2_ n3_ hb ho25))
     go_ret
     exact ⟨_, ab14_, by (with_reducible repeat (first | apply Kd.N_alloc | apply Kd.N_drewN | apply Kd.N_drew)); exact Kd.N_mono HO349.out (fun _ hk => hk.1), ab4_, ab5_, ab3_⟩
    rw [if_neg c18] at H
    have c18b0 : decide (0 < a2) = false := decide_eq_false c18
    clear c18
    obtain ⟨⟨t350, t351⟩, A260, H⟩ := bsm H
    (try dsimp only at H)
    have A26 := am A260
    clear A260
    obtain ⟨⟨t352, t353, t354, t357⟩, A270, H⟩ := bsm H
    (try dsimp only at H)
    have A27 := am A270
    clear A270
    obtain ⟨y358, hy358⟩ : ∃ y_ : List (S37), y_ = (([(⟨7, 0, 0, (⟨t352, t353, t354⟩ : S34), ([] : List (S37)), ([] : List (S37))⟩ : S37)] : List (S37))) := ⟨_, rfl⟩
    replace H : (some (y358, t357)) = some (r1, r2) := by first | (rw [hy358]; with_reducible exact H) | (have H2_ := (Option.bind_some _ _).symm.trans H; rw [hy358]; with_reducible exact H2_) | (have H2_ := (Option.bind_some _ _).symm.trans H; with_reducible exact H2_) | with_reducible exact H | (rw [hy358]; exact H) | exact H
    have Ny358 := am hy358
    clear hy358
    simp only [Option.some.injEq, Prod.mk.injEq] at H
    obtain ⟨rfl, rfl⟩ := H
    go_wp2_with (first | ((with_reducible refine gate_callee (f := 50) rfl ?_); refine goesL_ (some 52) rfl rfl Try.func50 (by kernel_rfl) rfl #[.pointer (some ⟨g, 0, none⟩), .int .i64 3] rfl ab1_ ?_; (with_reducible refine (spec_l6Rd_pick.calls kj5 g s0_0 t313 3 t350 t351 w0 _ ?side1 ?side2 A26.out).mono ?_); (case side1 => exact ab4_); (case side2 => exact ab5_); rintro e w28 ⟨rfl, hi, hb, hk⟩; refine ⟨_, rfl, ?_⟩; have n0_ := am (KeepBut.trans ab3_ hk (.inl rfl)); have n1_ := am (hb); have n2_ := am (hi); clear HK HB HI0; have HK := n0_; have HB := n1_; have HI0 := n2_; clear n0_ n1_ n2_; (try clear hb); (try clear hb2); (try clear hk); (try clear hi)) | ((with_reducible refine gate_callee (f := 91) rfl ?_); refine goesL_ (some 54) rfl rfl Try.func91 (by kernel_rfl) rfl #[.pointer (some ⟨g, 0, none⟩), .int .i64 (wrap64 (1 + t350))] rfl ab1_ ?_; (with_reducible refine (spec_l91Expr.calls kj5 g s0_0 t351 (wrap64 (1 + t350)) t352 t353 t354 t357 w0 _ ?side1 ?side2 A27.out).mono ?_); (case side1 => exact ab4_); (case side2 => exact ab5_); rintro e w29 ⟨v355, rfl, ho0, hi, hb, hk⟩; refine ⟨_, rfl, ?_⟩; have n0_ := am (Kd.N_lower (Kd.N_mono (ok' := fun k_ => (w.heap.size ≤ k_) ∧ k_ ≠ g) ho0 (fun k_ hk_ => ⟨(Nat.le_trans (keep_size (w := w) (g := g) (row := none) ab3_) hk_), (IsS66.fresh ab4_ k_ hk_)⟩)) (keep_size (w := w) (g := g) (row := none) ab3_)); have n1_ := am (KeepBut.trans ab3_ hk (.inl rfl)); have n2_ := am (hb); have n3_ := am (hi); clear HK HB HI0; have HO356 := n0_; have HK := n1_; have HB := n2_; have HI0 := n3_; clear n0_ n1_ n2_ n3_; (try clear hb); (try clear hb2); (try clear hk); (try clear hi); (try clear ho0); obtain ⟨Ao30, co30, eo30⟩ := Kd.N_slice HO356.out; subst eo30) | ((with_reducible refine gate_dst (N := 56) rfl ?_); refine Kd.N_lit k37 _ 37 ?hg (N' := 56) ?hd (xs := ([(⟨7, 0, 0, (⟨t352, t353, t354⟩ : S34), ([] : List (S37)), ([] : List (S37))⟩ : S37)] : List (S37))) (inner := [.int .i64 7, .int .i64 0, .int .i64 0, .int .i64 t352, .int .i64 t353, .slice Ao30 t354.length co30, .slice none 0 0, .slice none 0 0]) (ok := (fun k_ => (w.heap.size ≤ k_) ∧ k_ ≠ g)) (okp := (fun k_ => (w.heap.size ≤ k_) ∧ k_ ≠ g)) ?hr ?hp (fun _ hk => hk) ((show ∀ k_, w29.heap.size ≤ k_ → (fun k_ => (w.heap.size ≤ k_) ∧ k_ ≠ g) k_ from fun k_ hk => ⟨(Nat.le_trans (keep_size (w := w) (g := g) (row := none) ab3_) hk), IsS66.fresh ab4_ k_ hk⟩) _ (Nat.le_refl _)) (Below.refl _ _) (Nat.le_refl _) (by simp) ?_; (case hd => rfl); (case hg => rfl); (case hr => first | (go_simp; done) | (go_simp; rfl)); (case hp => exact (Reps.c8 (show Kd.FK k37 _ _ (⟨7, 0, 0, (⟨t352, t353, t354⟩ : S34), ([] : List (S37)), ([] : List (S37))⟩ : S37) [.int .i64 7, .int .i64 0, .int .i64 0, .int .i64 t352, .int .i64 t353, .slice Ao30 t354.length co30, .slice none 0 0, .slice none 0 0] from (k37_mkF _ _ (⟨7, 0, 0, (⟨t352, t353, t354⟩ : S34), ([] : List (S37)), ([] : List (S37))⟩ : S37) (Kd.N_reads' (Kd.N_mono (ok' := (fun k_ => (w.heap.size ≤ k_) ∧ k_ ≠ g)) (HO356.out) (fun k_ hk => ⟨hk.1, hk.2⟩))).2.1 (Kd.N_F (Kd.N_mono (ok' := (fun k_ => (w.heap.size ≤ k_) ∧ k_ ≠ g)) (HO356.out) (fun k_ hk => ⟨hk.1, hk.2⟩))) (Nat.le_refl _) (Kd.F_nil _ _ _) (Nat.le_refl _) (Kd.F_nil _ _ _))) (Reps.none _ _))); intro v359 w31 ho32 hb hg_ hnew_; clear hg_ hnew_; (first | rw [← Ny358.out] at ho32 | (simp only [Int.reduceToNat] at ho32; rw [← Ny358.out] at ho32)); have n0_ := am (Kd.N_lower ho32 (keep_size (w := w) (g := g) (row := none) ab3_)); have n1_ := am (IsS66.below ab4_ hb); have n2_ := am (KeepBut.trans ab3_ (KeepBut.of_below hb g none) (.inl rfl)); have n3_ := am (below_step ab5_ hb); clear HI0 HK HB HO356; have HO360 := n0_; have HI0 := n1_; have HK := n2_; have HB := n3_; clear n0_ n1_ n2_ n3_ hb ho32))
    go_ret
    exact ⟨_, ab14_, by (with_reducible repeat (first | apply Kd.N_alloc | apply Kd.N_drewN | apply Kd.N_drew)); exact Kd.N_mono HO360.out (fun _ hk => hk.1), ab4_, ab5_, ab3_⟩
   rw [if_neg c17] at H
   have c17b0 : (t312 == 2) = false := beq_eq_false_iff_ne.mpr c17
   have c17b1 : (t312 != 2) = true := bne_iff_ne.mpr c17
   by_cases c33 : t312 = 3
   ·rw [if_pos c33] at H
    have c33b0 : (t312 == 3) = true := beq_iff_eq.mpr c33
    have c33b1 : (t312 != 3) = false := bne_eq_false_iff_eq.mpr c33
    clear c33
    have HC34 := am H
    clear H
    go_upto_region 9 with (fail)
    go_cut [33] (fun v33 wc => ∃ (kq : Nat) (x33_33 : Bool), v33 = .bool x33_33 ∧ Aside0 (spec_l92Stmt.j1 kq a1 a2 x33_33 s0_0 t313 = some (r1, r2)) ∧ Aside0 (kq ≤ kj5) ∧ Aside0 (IsS66 w0 wc g s0_0 t313) ∧ Aside0 (KeepBut w wc g none) ∧ Aside0 (Below w0.heap.size w0 wc))
    case first =>
     have H := HC34.out
     clear HC34
     by_cases c35 : a2 > 0
     ·rw [if_pos c35] at H
      have c35b0 : decide (0 < a2) = true := decide_eq_true c35
      clear c35
      (first | rw [c35b0] | (simp only [i64_w, i32_w]; rw [c35b0]) | skip)
      have H' := am H
      clear H
      go_wp2
      go_meet
      case rel => exact ⟨_, (a3), (by first | rfl | (simp; done) | (simp [*]; done)), H', ⟨by have := HJ5.out; first | omega | exact Nat.le_refl _⟩, ⟨ab4_⟩, ⟨ab3_⟩, ⟨ab5_⟩⟩
     rw [if_neg c35] at H
     have c35b0 : decide (0 < a2) = false := decide_eq_false c35
     clear c35
     (first | rw [c35b0] | (simp only [i64_w, i32_w]; rw [c35b0]) | skip)
     have H' := am H
     clear H
     go_wp2
     go_meet
     case rel => exact ⟨_, (false), (by first | rfl | (simp; done) | (simp [*]; done)), H', ⟨by have := HJ5.out; first | omega | exact Nat.le_refl _⟩, ⟨ab4_⟩, ⟨ab3_⟩, ⟨ab5_⟩⟩
    case rest =>
     clear HC34
     try clear c9
     try clear c17
     try clear c17b0
     try clear c17b1
     try clear c33
     try clear c33b0
     try clear c33b1
     obtain ⟨kq, x33_33, rfl, HA, HJ33, HI0, HK, HB⟩ := hcut
     cases kq with
     | zero => exact absurd HA.out (by simp [spec_l92Stmt.j1])
     | succ kj33 =>
      have H := HA.out
      clear HA
      simp only [spec_l92Stmt.j1] at H
      by_cases c36 : x33_33 = true
      ·subst c36
       rw [if_pos rfl] at H
       obtain ⟨⟨t361, t364⟩, A370, H⟩ := bsm H
       (try dsimp only at H)
       have A37 := am A370
       clear A370
       simp only [Option.some.injEq, Prod.mk.injEq] at H
       obtain ⟨rfl, rfl⟩ := H
       go_wp2_with (first | ((with_reducible refine gate_callee (f := 89) rfl ?_); refine goesL_ (some 37) rfl rfl Try.func89 (by kernel_rfl) rfl #[.pointer (some ⟨g, 0, none⟩), .int .i64 a1, .int .i64 a2] rfl ab1_ ?_; (with_reducible refine (ih_spec_l92Loop kj33 (by have := HJ5.out; have := HJ33.out; omega) g s0_0 t313 a1 a2 t361 t364 w0 _ ?side1 ?side2 A37.out).mono ?_); (case side1 => exact ab4_); (case side2 => exact ab5_); rintro e w38 ⟨v362, rfl, ho0, hi, hb, hk⟩; refine ⟨_, rfl, ?_⟩; have n0_ := am (Kd.N_lower (Kd.N_mono (ok' := fun k_ => (w.heap.size ≤ k_) ∧ k_ ≠ g) ho0 (fun k_ hk_ => ⟨(Nat.le_trans (keep_size (w := w) (g := g) (row := none) ab3_) hk_), (IsS66.fresh ab4_ k_ hk_)⟩)) (keep_size (w := w) (g := g) (row := none) ab3_)); have n1_ := am (KeepBut.trans ab3_ hk (.inl rfl)); have n2_ := am (hb); have n3_ := am (hi); clear HK HB HI0; have HO363 := n0_; have HK := n1_; have HB := n2_; have HI0 := n3_; clear n0_ n1_ n2_ n3_; (try clear hb); (try clear hb2); (try clear hk); (try clear hi); (try clear ho0)))
       go_ret
       exact ⟨_, ab14_, by (with_reducible repeat (first | apply Kd.N_alloc | apply Kd.N_drewN | apply Kd.N_drew)); exact Kd.N_mono HO363.out (fun _ hk => hk.1), ab4_, ab5_, ab3_⟩
      replace c36 := Bool.eq_false_iff.mpr c36
      subst c36
      rw [if_neg (show ¬ (false = true) by decide)] at H
      obtain ⟨⟨t365, t366⟩, A390, H⟩ := bsm H
      (try dsimp only at H)
      have A39 := am A390
      clear A390
      obtain ⟨⟨t367, t368, t369, t372⟩, A400, H⟩ := bsm H
      (try dsimp only at H)
      have A40 := am A400
      clear A400
      obtain ⟨y373, hy373⟩ : ∃ y_ : List (S37), y_ = (([(⟨7, 0, 0, (⟨t367, t368, t369⟩ : S34), ([] : List (S37)), ([] : List (S37))⟩ : S37)] : List (S37))) := ⟨_, rfl⟩
      replace H : (some (y373, t372)) = some (r1, r2) := by first | (rw [hy373]; with_reducible exact H) | (have H2_ := (Option.bind_some _ _).symm.trans H; rw [hy373]; with_reducible exact H2_) | (have H2_ := (Option.bind_some _ _).symm.trans H; with_reducible exact H2_) | with_reducible exact H | (rw [hy373]; exact H) | exact H
      have Ny373 := am hy373
      clear hy373
      simp only [Option.some.injEq, Prod.mk.injEq] at H
      obtain ⟨rfl, rfl⟩ := H
      go_wp2_with (first | ((with_reducible refine gate_callee (f := 50) rfl ?_); refine goesL_ (some 52) rfl rfl Try.func50 (by kernel_rfl) rfl #[.pointer (some ⟨g, 0, none⟩), .int .i64 3] rfl ab1_ ?_; (with_reducible refine (spec_l6Rd_pick.calls kj33 g s0_0 t313 3 t365 t366 w0 _ ?side1 ?side2 A39.out).mono ?_); (case side1 => exact ab4_); (case side2 => exact ab5_); rintro e w41 ⟨rfl, hi, hb, hk⟩; refine ⟨_, rfl, ?_⟩; have n0_ := am (KeepBut.trans ab3_ hk (.inl rfl)); have n1_ := am (hb); have n2_ := am (hi); clear HK HB HI0; have HK := n0_; have HB := n1_; have HI0 := n2_; clear n0_ n1_ n2_; (try clear hb); (try clear hb2); (try clear hk); (try clear hi)) | ((with_reducible refine gate_callee (f := 91) rfl ?_); refine goesL_ (some 54) rfl rfl Try.func91 (by kernel_rfl) rfl #[.pointer (some ⟨g, 0, none⟩), .int .i64 (wrap64 (1 + t365))] rfl ab1_ ?_; (with_reducible refine (spec_l91Expr.calls kj33 g s0_0 t366 (wrap64 (1 + t365)) t367 t368 t369 t372 w0 _ ?side1 ?side2 A40.out).mono ?_); (case side1 => exact ab4_); (case side2 => exact ab5_); rintro e w42 ⟨v370, rfl, ho0, hi, hb, hk⟩; refine ⟨_, rfl, ?_⟩; have n0_ := am (Kd.N_lower (Kd.N_mono (ok' := fun k_ => (w.heap.size ≤ k_) ∧ k_ ≠ g) ho0 (fun k_ hk_ => ⟨(Nat.le_trans (keep_size (w := w) (g := g) (row := none) ab3_) hk_), (IsS66.fresh ab4_ k_ hk_)⟩)) (keep_size (w := w) (g := g) (row := none) ab3_)); have n1_ := am (KeepBut.trans ab3_ hk (.inl rfl)); have n2_ := am (hb); have n3_ := am (hi); clear HK HB HI0; have HO371 := n0_; have HK := n1_; have HB := n2_; have HI0 := n3_; clear n0_ n1_ n2_ n3_; (try clear hb); (try clear hb2); (try clear hk); (try clear hi); (try clear ho0); obtain ⟨Ao43, co43, eo43⟩ := Kd.N_slice HO371.out; subst eo43) | ((with_reducible refine gate_dst (N := 56) rfl ?_); refine Kd.N_lit k37 _ 37 ?hg (N' := 56) ?hd (xs := ([(⟨7, 0, 0, (⟨t367, t368, t369⟩ : S34), ([] : List (S37)), ([] : List (S37))⟩ : S37)] : List (S37))) (inner := [.int .i64 7, .int .i64 0, .int .i64 0, .int .i64 t367, .int .i64 t368, .slice Ao43 t369.length co43, .slice none 0 0, .slice none 0 0]) (ok := (fun k_ => (w.heap.size ≤ k_) ∧ k_ ≠ g)) (okp := (fun k_ => (w.heap.size ≤ k_) ∧ k_ ≠ g)) ?hr ?hp (fun _ hk => hk) ((show ∀ k_, w42.heap.size ≤ k_ → (fun k_ => (w.heap.size ≤ k_) ∧ k_ ≠ g) k_ from fun k_ hk => ⟨(Nat.le_trans (keep_size (w := w) (g := g) (row := none) ab3_) hk), IsS66.fresh ab4_ k_ hk⟩) _ (Nat.le_refl _)) (Below.refl _ _) (Nat.le_refl _) (by simp) ?_; (case hd => rfl); (case hg => rfl); (case hr => first | (go_simp; done) | (go_simp; rfl)); (case hp => exact (Reps.c8 (show Kd.FK k37 _ _ (⟨7, 0, 0, (⟨t367, t368, t369⟩ : S34), ([] : List (S37)), ([] : List (S37))⟩ : S37) [.int .i64 7, .int .i64 0, .int .i64 0, .int .i64 t367, .int .i64 t368, .slice Ao43 t369.length co43, .slice none 0 0, .slice none 0 0] from (k37_mkF _ _ (⟨7, 0, 0, (⟨t367, t368, t369⟩ : S34), ([] : List (S37)), ([] : List (S37))⟩ : S37) (Kd.N_reads' (Kd.N_mono (ok' := (fun k_ => (w.heap.size ≤ k_) ∧ k_ ≠ g)) (HO371.out) (fun k_ hk => ⟨hk.1, hk.2⟩))).2.1 (Kd.N_F (Kd.N_mono (ok' := (fun k_ => (w.heap.size ≤ k_) ∧ k_ ≠ g)) (HO371.out) (fun k_ hk => ⟨hk.1, hk.2⟩))) (Nat.le_refl _) (Kd.F_nil _ _ _) (Nat.le_refl _) (Kd.F_nil _ _ _))) (Reps.none _ _))); intro v374 w44 ho45 hb hg_ hnew_; clear hg_ hnew_; (first | rw [← Ny373.out] at ho45 | (simp only [Int.reduceToNat] at ho45; rw [← Ny373.out] at ho45)); have n0_ := am (Kd.N_lower ho45 (keep_size (w := w) (g := g) (row := none) ab3_)); have n1_ := am (IsS66.below ab4_ hb); have n2_ := am (KeepBut.trans ab3_ (KeepBut.of_below hb g none) (.inl rfl)); have n3_ := am (below_step ab5_ hb); clear HI0 HK HB HO371; have HO375 := n0_; have HI0 := n1_; have HK := n2_; have HB := n3_; clear n0_ n1_ n2_ n3_ hb ho45))
      go_ret
      exact ⟨_, ab14_, by (with_reducible repeat (first | apply Kd.N_alloc | apply Kd.N_drewN | apply Kd.N_drew)); exact Kd.N_mono HO375.out (fun _ hk => hk.1), ab4_, ab5_, ab3_⟩
   rw [if_neg c33] at H
   have c33b0 : (t312 == 3) = false := beq_eq_false_iff_ne.mpr c33
   have c33b1 : (t312 != 3) = true := bne_iff_ne.mpr c33
   have HC46 := am H
   clear H
   go_upto_if 38 with (fail)
   go_cut [38] (fun v38 wc => ∃ (kq : Nat) (x38_45 : Bool), v38 = .bool x38_45 ∧ Aside0 (spec_l92Stmt.j2 kq a1 t312 x38_45 s0_0 t313 = some (r1, r2)) ∧ Aside0 (kq ≤ kj5) ∧ Aside0 (IsS66 w0 wc g s0_0 t313) ∧ Aside0 (KeepBut w wc g none) ∧ Aside0 (Below w0.heap.size w0 wc))
   case first =>
    have H := HC46.out
    clear HC46
    by_cases c47 : t312 = 4
    ·rw [if_pos c47] at H
     have c47b0 : (t312 == 4) = true := beq_iff_eq.mpr c47
     have c47b1 : (t312 != 4) = false := bne_eq_false_iff_eq.mpr c47
     clear c47
     (first | rw [c47b0] | (simp only [i64_w, i32_w]; rw [c47b0]) | skip)
     have H' := am H
     clear H
     go_wp2
     go_meet
     case rel => exact ⟨_, ((t312 == 4)), (by first | rfl | (simp; done) | (simp [*]; done)), H', ⟨by have := HJ5.out; first | omega | exact Nat.le_refl _⟩, ⟨ab4_⟩, ⟨ab3_⟩, ⟨ab5_⟩⟩
    rw [if_neg c47] at H
    have c47b0 : (t312 == 4) = false := beq_eq_false_iff_ne.mpr c47
    have c47b1 : (t312 != 4) = true := bne_iff_ne.mpr c47
    (first | rw [c47b0] | (simp only [i64_w, i32_w]; rw [c47b0]) | skip)
    by_cases c48 : t312 = 5
    ·rw [if_pos c48] at H
     have c48b0 : (t312 == 5) = true := beq_iff_eq.mpr c48
     have c48b1 : (t312 != 5) = false := bne_eq_false_iff_eq.mpr c48
     clear c48
     have H' := am H
     clear H
     go_wp2
     go_meet
     case rel => exact ⟨_, ((t312 == 5)), (by first | rfl | (simp; done) | (simp [*]; done)), H', ⟨by have := HJ5.out; first | omega | exact Nat.le_refl _⟩, ⟨ab4_⟩, ⟨ab3_⟩, ⟨ab5_⟩⟩
    rw [if_neg c48] at H
    have c48b0 : (t312 == 5) = false := beq_eq_false_iff_ne.mpr c48
    have c48b1 : (t312 != 5) = true := bne_iff_ne.mpr c48
    have H' := am H
    clear H
    go_wp2
    go_meet
    case rel => exact ⟨_, ((t312 == 6)), (by first | rfl | (simp; done) | (simp [*]; done)), H', ⟨by have := HJ5.out; first | omega | exact Nat.le_refl _⟩, ⟨ab4_⟩, ⟨ab3_⟩, ⟨ab5_⟩⟩
   case rest =>
    clear HC46
    try clear c9
    try clear c17
    try clear c17b0
    try clear c17b1
    try clear c33
    try clear c33b0
    try clear c33b1
    obtain ⟨kq, x38_45, rfl, HA, HJ45, HI0, HK, HB⟩ := hcut
    cases kq with
    | zero => exact absurd HA.out (by simp [spec_l92Stmt.j2])
    | succ kj45 =>
     have H := HA.out
     clear HA
     simp only [spec_l92Stmt.j2] at H
     by_cases c49 : x38_45 = true
     ·subst c49
      rw [if_pos rfl] at H
      obtain ⟨⟨t376, t377, t378, t379, t380, t381, t384, t387, t390⟩, A500, H⟩ := bsm H
      (try dsimp only at H)
      have A50 := am A500
      clear A500
      obtain ⟨y391, hy391⟩ : ∃ y_ : List (S37), y_ = (([(⟨t376, t377, t378, (⟨t379, t380, t381⟩ : S34), t384, t387⟩ : S37)] : List (S37))) := ⟨_, rfl⟩
      replace H : (some (y391, t390)) = some (r1, r2) := by first | (rw [hy391]; with_reducible exact H) | (have H2_ := (Option.bind_some _ _).symm.trans H; rw [hy391]; with_reducible exact H2_) | (have H2_ := (Option.bind_some _ _).symm.trans H; with_reducible exact H2_) | with_reducible exact H | (rw [hy391]; exact H) | exact H
      have Ny391 := am hy391
      clear hy391
      simp only [Option.some.injEq, Prod.mk.injEq] at H
      obtain ⟨rfl, rfl⟩ := H
      go_wp2_with (first | ((with_reducible refine gate_callee (f := 90) rfl ?_); refine goesL_ (some 44) rfl rfl Try.func90 (by kernel_rfl) rfl #[.pointer (some ⟨g, 0, none⟩), .int .i64 a1] rfl ab1_ ?_; (with_reducible refine (spec_l92Talk.calls kj45 g s0_0 t313 a1 t376 t377 t378 t379 t380 t381 t384 t387 t390 w0 _ ?side1 ?side2 A50.out).mono ?_); (case side1 => exact ab4_); (case side2 => exact ab5_); rintro e w51 ⟨v382, v385, v388, rfl, ho0, ho1, ho2, hi, hb, hk⟩; refine ⟨_, rfl, ?_⟩; have n0_ := am (Kd.N_lower (Kd.N_mono (ok' := fun k_ => (w.heap.size ≤ k_) ∧ some k_ ≠ (v385 : Value).ownBlock ∧ some k_ ≠ (v388 : Value).ownBlock ∧ k_ ≠ g) ho0 (fun k_ hk_ => ⟨(Nat.le_trans (keep_size (w := w) (g := g) (row := none) ab3_) hk_.1), hk_.2.1, hk_.2.2, (IsS66.fresh ab4_ k_ hk_.1)⟩)) (keep_size (w := w) (g := g) (row := none) ab3_)); have n1_ := am (Kd.N_lower (Kd.N_mono (ok' := fun k_ => (w.heap.size ≤ k_) ∧ some k_ ≠ (v382 : Value).ownBlock ∧ some k_ ≠ (v388 : Value).ownBlock ∧ k_ ≠ g) ho1 (fun k_ hk_ => ⟨(Nat.le_trans (keep_size (w := w) (g := g) (row := none) ab3_) hk_.1), hk_.2.1, hk_.2.2, (IsS66.fresh ab4_ k_ hk_.1)⟩)) (keep_size (w := w) (g := g) (row := none) ab3_)); have n2_ := am (Kd.N_lower (Kd.N_mono (ok' := fun k_ => (w.heap.size ≤ k_) ∧ some k_ ≠ (v382 : Value).ownBlock ∧ some k_ ≠ (v385 : Value).ownBlock ∧ k_ ≠ g) ho2 (fun k_ hk_ => ⟨(Nat.le_trans (keep_size (w := w) (g := g) (row := none) ab3_) hk_.1), hk_.2.1, hk_.2.2, (IsS66.fresh ab4_ k_ hk_.1)⟩)) (keep_size (w := w) (g := g) (row := none) ab3_)); have n3_ := am (KeepBut.trans ab3_ hk (.inl rfl)); have n4_ := am (hb); have n5_ := am (hi); clear HK HB HI0; have HO383 := n0_; have HO386 := n1_; have HO389 := n2_; have HK := n3_; have HB := n4_; have HI0 := n5_; clear n0_ n1_ n2_ n3_ n4_ n5_; (try clear hb); (try clear hb2); (try clear hk); (try clear hi); (try clear ho0); (try clear ho1); (try clear ho2); obtain ⟨Ao52, co52, eo52⟩ := Kd.N_slice HO383.out; subst eo52; obtain ⟨Ao53, co53, eo53⟩ := Kd.N_slice HO386.out; subst eo53; obtain ⟨Ao54, co54, eo54⟩ := Kd.N_slice HO389.out; subst eo54) | ((with_reducible refine gate_dst (N := 45) rfl ?_); refine Kd.N_lit k37 _ 37 ?hg (N' := 45) ?hd (xs := ([(⟨t376, t377, t378, (⟨t379, t380, t381⟩ : S34), t384, t387⟩ : S37)] : List (S37))) (inner := [.int .i64 t376, .int .i64 t377, .int .i64 t378, .int .i64 t379, .int .i64 t380, .slice Ao52 t381.length co52, .slice Ao53 t384.length co53, .slice Ao54 t387.length co54]) (ok := (fun k_ => (w.heap.size ≤ k_) ∧ k_ ≠ g)) (okp := (fun k_ => (w.heap.size ≤ k_) ∧ k_ ≠ g)) ?hr ?hp (fun _ hk => hk) ((show ∀ k_, w51.heap.size ≤ k_ → (fun k_ => (w.heap.size ≤ k_) ∧ k_ ≠ g) k_ from fun k_ hk => ⟨(Nat.le_trans (keep_size (w := w) (g := g) (row := none) ab3_) hk), IsS66.fresh ab4_ k_ hk⟩) _ (Nat.le_refl _)) (Below.refl _ _) (Nat.le_refl _) (by simp) ?_; (case hd => rfl); (case hg => rfl); (case hr => first | (go_simp; done) | (go_simp; rfl)); (case hp => exact (Reps.c8 (show Kd.FK k37 _ _ (⟨t376, t377, t378, (⟨t379, t380, t381⟩ : S34), t384, t387⟩ : S37) [.int .i64 t376, .int .i64 t377, .int .i64 t378, .int .i64 t379, .int .i64 t380, .slice Ao52 t381.length co52, .slice Ao53 t384.length co53, .slice Ao54 t387.length co54] from (k37_mkF _ _ (⟨t376, t377, t378, (⟨t379, t380, t381⟩ : S34), t384, t387⟩ : S37) (Kd.N_reads' (Kd.N_mono (ok' := (fun k_ => (w.heap.size ≤ k_) ∧ k_ ≠ g)) (HO383.out) (fun k_ hk => ⟨hk.1, hk.2.2.2⟩))).2.1 (Kd.N_F (Kd.N_mono (ok' := (fun k_ => (w.heap.size ≤ k_) ∧ k_ ≠ g)) (HO383.out) (fun k_ hk => ⟨hk.1, hk.2.2.2⟩))) (Kd.N_reads' (Kd.N_mono (ok' := (fun k_ => (w.heap.size ≤ k_) ∧ k_ ≠ g)) (HO386.out) (fun k_ hk => ⟨hk.1, hk.2.2.2⟩))).2.1 (Kd.N_F (Kd.N_mono (ok' := (fun k_ => (w.heap.size ≤ k_) ∧ k_ ≠ g)) (HO386.out) (fun k_ hk => ⟨hk.1, hk.2.2.2⟩))) (Kd.N_reads' (Kd.N_mono (ok' := (fun k_ => (w.heap.size ≤ k_) ∧ k_ ≠ g)) (HO389.out) (fun k_ hk => ⟨hk.1, hk.2.2.2⟩))).2.1 (Kd.N_F (Kd.N_mono (ok' := (fun k_ => (w.heap.size ≤ k_) ∧ k_ ≠ g)) (HO389.out) (fun k_ hk => ⟨hk.1, hk.2.2.2⟩))))) (Reps.none _ _))); intro v392 w55 ho56 hb hg_ hnew_; clear hg_ hnew_; (first | rw [← Ny391.out] at ho56 | (simp only [Int.reduceToNat] at ho56; rw [← Ny391.out] at ho56)); have n0_ := am (Kd.N_lower ho56 (keep_size (w := w) (g := g) (row := none) ab3_)); have n1_ := am (IsS66.below ab4_ hb); have n2_ := am (KeepBut.trans ab3_ (KeepBut.of_below hb g none) (.inl rfl)); have n3_ := am (below_step ab5_ hb); clear HI0 HK HB HO383 HO386 HO389; have HO393 := n0_; have HI0 := n1_; have HK := n2_; have HB := n3_; clear n0_ n1_ n2_ n3_ hb ho56))
      go_ret
      exact ⟨_, ab14_, by (with_reducible repeat (first | apply Kd.N_alloc | apply Kd.N_drewN | apply Kd.N_drew)); exact Kd.N_mono HO393.out (fun _ hk => hk.1), ab4_, ab5_, ab3_⟩
     replace c49 := Bool.eq_false_iff.mpr c49
     subst c49
     rw [if_neg (show ¬ (false = true) by decide)] at H
     by_cases c57 : t312 = 7
     ·rw [if_pos c57] at H
      have c57b0 : (t312 == 7) = true := beq_iff_eq.mpr c57
      have c57b1 : (t312 != 7) = false := bne_eq_false_iff_eq.mpr c57
      clear c57
      obtain ⟨y394, hy394⟩ : ∃ y_ : List (S37), y_ = (([(⟨6, 0, 0, (⟨0, 0, ([] : List (S34))⟩ : S34), ([] : List (S37)), ([] : List (S37))⟩ : S37)] : List (S37))) := ⟨_, rfl⟩
      replace H : (some (y394, t313)) = some (r1, r2) := by first | (rw [hy394]; with_reducible exact H) | (have H2_ := (Option.bind_some _ _).symm.trans H; rw [hy394]; with_reducible exact H2_) | (have H2_ := (Option.bind_some _ _).symm.trans H; with_reducible exact H2_) | with_reducible exact H | (rw [hy394]; exact H) | exact H
      have Ny394 := am hy394
      clear hy394
      simp only [Option.some.injEq, Prod.mk.injEq] at H
      obtain ⟨rfl, rfl⟩ := H
      go_wp2_with (first | ((with_reducible refine gate_dst (N := 49) rfl ?_); refine Kd.N_lit k37 _ 37 ?hg (N' := 49) ?hd (xs := ([(⟨6, 0, 0, (⟨0, 0, ([] : List (S34))⟩ : S34), ([] : List (S37)), ([] : List (S37))⟩ : S37)] : List (S37))) (inner := [.int .i64 6, .int .i64 0, .int .i64 0, .int .i64 0, .int .i64 0, .slice none 0 0, .slice none 0 0, .slice none 0 0]) (ok := (fun k_ => (w.heap.size ≤ k_) ∧ k_ ≠ g)) (okp := (fun k_ => (w.heap.size ≤ k_) ∧ k_ ≠ g)) ?hr ?hp (fun _ hk => hk) ((show ∀ k_, wc.heap.size ≤ k_ → (fun k_ => (w.heap.size ≤ k_) ∧ k_ ≠ g) k_ from fun k_ hk => ⟨(Nat.le_trans (keep_size (w := w) (g := g) (row := none) ab3_) hk), IsS66.fresh ab4_ k_ hk⟩) _ (Nat.le_refl _)) (Below.refl _ _) (Nat.le_refl _) (by simp) ?_; (case hd => rfl); (case hg => rfl); (case hr => first | (go_simp; done) | (go_simp; rfl)); (case hp => exact (Reps.c8 (show Kd.FK k37 _ _ (⟨6, 0, 0, (⟨0, 0, ([] : List (S34))⟩ : S34), ([] : List (S37)), ([] : List (S37))⟩ : S37) [.int .i64 6, .int .i64 0, .int .i64 0, .int .i64 0, .int .i64 0, .slice none 0 0, .slice none 0 0, .slice none 0 0] from (k37_mkF _ _ (⟨6, 0, 0, (⟨0, 0, ([] : List (S34))⟩ : S34), ([] : List (S37)), ([] : List (S37))⟩ : S37) (Nat.le_refl _) (Kd.F_nil _ _ _) (Nat.le_refl _) (Kd.F_nil _ _ _) (Nat.le_refl _) (Kd.F_nil _ _ _))) (Reps.none _ _))); intro v395 w58 ho59 hb hg_ hnew_; clear hg_ hnew_; (first | rw [← Ny394.out] at ho59 | (simp only [Int.reduceToNat] at ho59; rw [← Ny394.out] at ho59)); have n0_ := am (Kd.N_lower ho59 (keep_size (w := w) (g := g) (row := none) ab3_)); have n1_ := am (IsS66.below ab4_ hb); have n2_ := am (KeepBut.trans ab3_ (KeepBut.of_below hb g none) (.inl rfl)); have n3_ := am (below_step ab5_ hb); clear HI0 HK HB; have HO396 := n0_; have HI0 := n1_; have HK := n2_; have HB := n3_; clear n0_ n1_ n2_ n3_ hb ho59))
      go_ret
      exact ⟨_, ab14_, by (with_reducible repeat (first | apply Kd.N_alloc | apply Kd.N_drewN | apply Kd.N_drew)); exact Kd.N_mono HO396.out (fun _ hk => hk.1), ab4_, ab5_, ab3_⟩
     rw [if_neg c57] at H
     have c57b0 : (t312 == 7) = false := beq_eq_false_iff_ne.mpr c57
     have c57b1 : (t312 != 7) = true := bne_iff_ne.mpr c57
     obtain ⟨⟨t397, t398⟩, A600, H⟩ := bsm H
     (try dsimp only at H)
     have A60 := am A600
     clear A600
     obtain ⟨⟨t399, t400, t401, t404⟩, A610, H⟩ := bsm H
     (try dsimp only at H)
     have A61 := am A610
     clear A610
     obtain ⟨y405, hy405⟩ : ∃ y_ : List (S37), y_ = (([(⟨7, 0, 0, (⟨t399, t400, t401⟩ : S34), ([] : List (S37)), ([] : List (S37))⟩ : S37)] : List (S37))) := ⟨_, rfl⟩
     replace H : (some (y405, t404)) = some (r1, r2) := by first | (rw [hy405]; with_reducible exact H) | (have H2_ := (Option.bind_some _ _).symm.trans H; rw [hy405]; with_reducible exact H2_) | (have H2_ := (Option.bind_some _ _).symm.trans H; with_reducible exact H2_) | with_reducible exact H | (rw [hy405]; exact H) | exact H
     have Ny405 := am hy405
     clear hy405
     simp only [Option.some.injEq, Prod.mk.injEq] at H
     obtain ⟨rfl, rfl⟩ := H
     go_wp2_with (first | ((with_reducible refine gate_callee (f := 50) rfl ?_); refine goesL_ (some 52) rfl rfl Try.func50 (by kernel_rfl) rfl #[.pointer (some ⟨g, 0, none⟩), .int .i64 3] rfl ab1_ ?_; (with_reducible refine (spec_l6Rd_pick.calls kj45 g s0_0 t313 3 t397 t398 w0 _ ?side1 ?side2 A60.out).mono ?_); (case side1 => exact ab4_); (case side2 => exact ab5_); rintro e w62 ⟨rfl, hi, hb, hk⟩; refine ⟨_, rfl, ?_⟩; have n0_ := am (KeepBut.trans ab3_ hk (.inl rfl)); have n1_ := am (hb); have n2_ := am (hi); clear HK HB HI0; have HK := n0_; have HB := n1_; have HI0 := n2_; clear n0_ n1_ n2_; (try clear hb); (try clear hb2); (try clear hk); (try clear hi)) | ((with_reducible refine gate_callee (f := 91) rfl ?_); refine goesL_ (some 54) rfl rfl Try.func91 (by kernel_rfl) rfl #[.pointer (some ⟨g, 0, none⟩), .int .i64 (wrap64 (1 + t397))] rfl ab1_ ?_; (with_reducible refine (spec_l91Expr.calls kj45 g s0_0 t398 (wrap64 (1 + t397)) t399 t400 t401 t404 w0 _ ?side1 ?side2 A61.out).mono ?_); (case side1 => exact ab4_); (case side2 => exact ab5_); rintro e w63 ⟨v402, rfl, ho0, hi, hb, hk⟩; refine ⟨_, rfl, ?_⟩; have n0_ := am (Kd.N_lower (Kd.N_mono (ok' := fun k_ => (w.heap.size ≤ k_) ∧ k_ ≠ g) ho0 (fun k_ hk_ => ⟨(Nat.le_trans (keep_size (w := w) (g := g) (row := none) ab3_) hk_), (IsS66.fresh ab4_ k_ hk_)⟩)) (keep_size (w := w) (g := g) (row := none) ab3_)); have n1_ := am (KeepBut.trans ab3_ hk (.inl rfl)); have n2_ := am (hb); have n3_ := am (hi); clear HK HB HI0; have HO403 := n0_; have HK := n1_; have HB := n2_; have HI0 := n3_; clear n0_ n1_ n2_ n3_; (try clear hb); (try clear hb2); (try clear hk); (try clear hi); (try clear ho0); obtain ⟨Ao64, co64, eo64⟩ := Kd.N_slice HO403.out; subst eo64) | ((with_reducible refine gate_dst (N := 56) rfl ?_); refine Kd.N_lit k37 _ 37 ?hg (N' := 56) ?hd (xs := ([(⟨7, 0, 0, (⟨t399, t400, t401⟩ : S34), ([] : List (S37)), ([] : List (S37))⟩ : S37)] : List (S37))) (inner := [.int .i64 7, .int .i64 0, .int .i64 0, .int .i64 t399, .int .i64 t400, .slice Ao64 t401.length co64, .slice none 0 0, .slice none 0 0]) (ok := (fun k_ => (w.heap.size ≤ k_) ∧ k_ ≠ g)) (okp := (fun k_ => (w.heap.size ≤ k_) ∧ k_ ≠ g)) ?hr ?hp (fun _ hk => hk) ((show ∀ k_, w63.heap.size ≤ k_ → (fun k_ => (w.heap.size ≤ k_) ∧ k_ ≠ g) k_ from fun k_ hk => ⟨(Nat.le_trans (keep_size (w := w) (g := g) (row := none) ab3_) hk), IsS66.fresh ab4_ k_ hk⟩) _ (Nat.le_refl _)) (Below.refl _ _) (Nat.le_refl _) (by simp) ?_; (case hd => rfl); (case hg => rfl); (case hr => first | (go_simp; done) | (go_simp; rfl)); (case hp => exact (Reps.c8 (show Kd.FK k37 _ _ (⟨7, 0, 0, (⟨t399, t400, t401⟩ : S34), ([] : List (S37)), ([] : List (S37))⟩ : S37) [.int .i64 7, .int .i64 0, .int .i64 0, .int .i64 t399, .int .i64 t400, .slice Ao64 t401.length co64, .slice none 0 0, .slice none 0 0] from (k37_mkF _ _ (⟨7, 0, 0, (⟨t399, t400, t401⟩ : S34), ([] : List (S37)), ([] : List (S37))⟩ : S37) (Kd.N_reads' (Kd.N_mono (ok' := (fun k_ => (w.heap.size ≤ k_) ∧ k_ ≠ g)) (HO403.out) (fun k_ hk => ⟨hk.1, hk.2⟩))).2.1 (Kd.N_F (Kd.N_mono (ok' := (fun k_ => (w.heap.size ≤ k_) ∧ k_ ≠ g)) (HO403.out) (fun k_ hk => ⟨hk.1, hk.2⟩))) (Nat.le_refl _) (Kd.F_nil _ _ _) (Nat.le_refl _) (Kd.F_nil _ _ _))) (Reps.none _ _))); intro v406 w65 ho66 hb hg_ hnew_; clear hg_ hnew_; (first | rw [← Ny405.out] at ho66 | (simp only [Int.reduceToNat] at ho66; rw [← Ny405.out] at ho66)); have n0_ := am (Kd.N_lower ho66 (keep_size (w := w) (g := g) (row := none) ab3_)); have n1_ := am (IsS66.below ab4_ hb); have n2_ := am (KeepBut.trans ab3_ (KeepBut.of_below hb g none) (.inl rfl)); have n3_ := am (below_step ab5_ hb); clear HI0 HK HB HO403; have HO407 := n0_; have HI0 := n1_; have HK := n2_; have HB := n3_; clear n0_ n1_ n2_ n3_ hb ho66))
     go_ret
     exact ⟨_, ab14_, by (with_reducible repeat (first | apply Kd.N_alloc | apply Kd.N_drewN | apply Kd.N_drew)); exact Kd.N_mono HO407.out (fun _ hk => hk.1), ab4_, ab5_, ab3_⟩
theorem spec_l92Block.step (k : Nat) (ih_spec_l92If : ∀ m, m < k → spec_l92If.CallsAt m) (ih_spec_l92Loop : ∀ m, m < k → spec_l92Loop.CallsAt m) (ih_spec_l92Stmt : ∀ m, m < k → spec_l92Stmt.CallsAt m) (ih_spec_l92Block : ∀ m, m < k → spec_l92Block.CallsAt m) : spec_l92Block.CallsAt k := by
 intro g s0_0 s0_1 a1 a2 a3 a4 r1 r2 w0 w hI hB h
 cases k with
 | zero => exact absurd h (by simp [spec_l92Block.f])
 | succ k =>
 simp only [spec_l92Block.f] at h
 have HI0 := am hI
 have HK := am (KeepBut.refl w g none)
 have HL := am hB.size
 clear hI
 have HW0 := am hB.size
 have HB := am hB
 clear hB
 have H : (spec_l92Block.l0 k a1 a2 a3 a4 (([] : List (S37))) 0 s0_0 s0_1) = some (r1, r2) := h
 clear h
 obtain ⟨y408, hy408⟩ : ∃ y_ : List (S37), y_ = (([] : List (S37))) := ⟨_, rfl⟩
 replace H : (spec_l92Block.l0 k a1 a2 a3 a4 y408 0 s0_0 s0_1) = some (r1, r2) := by first | (rw [hy408]; with_reducible exact H) | (have H2_ := (Option.bind_some _ _).symm.trans H; rw [hy408]; with_reducible exact H2_) | (have H2_ := (Option.bind_some _ _).symm.trans H; with_reducible exact H2_) | with_reducible exact H | (rw [hy408]; exact H) | exact H
 have Ny408 := am hy408
 clear hy408
 have H' := am H
 clear H
 go_enter Try.func70, Try.ntmps70
 go_wp2_with (first | ((with_reducible refine gate_dst (N := 13) rfl ?_); refine Kd.N_lit k37 _ 37 ?hg (N' := 13) ?hd (xs := ([] : List (S37))) (inner := []) (ok := (fun k_ => (w.heap.size ≤ k_) ∧ k_ ≠ g)) (okp := (fun k_ => (w.heap.size ≤ k_) ∧ k_ ≠ g)) ?hr ?hp (fun _ hk => hk) ((show ∀ k_, w.heap.size ≤ k_ → (fun k_ => (w.heap.size ≤ k_) ∧ k_ ≠ g) k_ from fun k_ hk => ⟨(Nat.le_trans (keep_size (w := w) (g := g) (row := none) ab3_) hk), IsS66.fresh ab4_ k_ hk⟩) _ (Nat.le_refl _)) (Below.refl _ _) (Nat.le_refl _) (by simp) ?_; (case hd => rfl); (case hg => rfl); (case hr => first | (go_simp; done) | (go_simp; rfl)); (case hp => exact (Reps.none _ _)); intro v409 w6 ho7 hb hg_ hnew_; clear hg_ hnew_; (first | rw [← Ny408.out] at ho7 | (simp only [Int.reduceToNat] at ho7; rw [← Ny408.out] at ho7)); have n0_ := am (Kd.N_lower ho7 (keep_size (w := w) (g := g) (row := none) ab3_)); have n1_ := am (IsS66.below ab4_ hb); have n2_ := am (KeepBut.trans ab3_ (KeepBut.of_below hb g none) (.inl rfl)); have n3_ := am (below_step ab5_ hb); clear HI0 HK HB; have HO410 := n0_; have HI0 := n1_; have HK := n2_; have HB := n3_; clear n0_ n1_ n2_ n3_ hb ho7))
 go_loopg [11, 12] k (fun kq v11 v12 w' => ∃ (x11_1 : List (S37)) (x12_1 : Int) (x1001_1 : Int), v12 = .int .i64 x12_1 ∧ Aside0 (spec_l92Block.l0 kq a1 a2 a3 a4 x11_1 x12_1 s0_0 x1001_1 = some (r1, r2)) ∧ Aside0 (kq ≤ k) ∧ Aside0 (Kd.N k37 37 w' w.heap.size (fun k_ => (w.heap.size ≤ k_) ∧ k_ ≠ g) v11 x11_1) ∧ Aside0 (IsS66 w0 w' g s0_0 x1001_1) ∧ Aside0 (KeepBut w w' g none) ∧ Aside0 (Below w0.heap.size w0 w'))
 case atStart => exact ⟨(y408), (0), (s0_1), (by first | rfl | (simp; done) | (simp [*]; done)), H', ⟨Nat.le_refl _⟩, ⟨by (with_reducible repeat (first | apply Kd.N_alloc | apply Kd.N_drewN | apply Kd.N_drew)); exact HO410.out⟩, ⟨ab4_⟩, ⟨ab3_⟩, ⟨ab5_⟩⟩
 case round =>
  clear H'
  obtain ⟨x11_1, x12_1, x1001_1, rfl, HA, HK1, HO_11, HI0, HK, HB⟩ := hrel
  cases gk with
  | zero => exact absurd HA.out (by simp [spec_l92Block.l0])
  | succ k1 =>
   have H := HA.out
   clear HA
   simp only [spec_l92Block.l0] at H
   by_cases c8 : x12_1 < a3
   ·rw [if_pos c8] at H
    have c8b0 : decide (x12_1 < a3) = true := decide_eq_true c8
    clear c8
    obtain ⟨⟨t411, t414⟩, A90, H⟩ := bsm H
    (try dsimp only at H)
    have A9 := am A90
    clear A90
    by_cases c10 : x11_1.length + t411.length < 1256584717458
    ·rw [if_pos c10] at H
     have LMc10 := am c10
     clear c10
     obtain ⟨y415, hy415⟩ : ∃ y_ : List (S37), y_ = (x11_1 ++ t411) := ⟨_, rfl⟩
     replace H : (spec_l92Block.l0 k1 a1 a2 a3 a4 y415 (wrap64 (x12_1 + 1)) s0_0 t414) = some (r1, r2) := by first | (rw [hy415]; with_reducible exact H) | (have H2_ := (Option.bind_some _ _).symm.trans H; rw [hy415]; with_reducible exact H2_) | (have H2_ := (Option.bind_some _ _).symm.trans H; with_reducible exact H2_) | with_reducible exact H | (rw [hy415]; exact H) | exact H
     have Ny415 := am hy415
     clear hy415
     have H' := am H
     clear H
     go_wp2_with (first | ((with_reducible refine gate_callee (f := 80) rfl ?_); refine goesL_ (some 24) rfl rfl Try.func80 (by kernel_rfl) rfl #[.pointer (some ⟨g, 0, none⟩), .int .i64 a1, .int .i64 a2, .bool a4] rfl ab1_ ?_; (with_reducible refine (ih_spec_l92Stmt k1 (by have := HK1.out; omega) g s0_0 x1001_1 a1 a2 a4 t411 t414 w0 _ ?side1 ?side2 A9.out).mono ?_); (case side1 => exact ab4_); (case side2 => exact ab5_); rintro e w11 ⟨v412, rfl, ho0, hi, hb, hk⟩; refine ⟨_, rfl, ?_⟩; have n0_ := am (Kd.N_mono (Kd.N_told (Kd.N_oldK (Kd.N_mono (ok := fun k_ => (((w.heap.size ≤ k_)) ∧ k_ ≠ g)) (aN_ HO_11.out) (fun k_ hk_ => (⟨hk_, hk_.2⟩ : _ ∧ k_ ≠ g))) hk) (by first | exact Kd.N_base ho0 | exact Kd.N_base (Kd.R_N ho0))) (fun _ h_ => h_.1)); have n1_ := am (Kd.N_lower (Kd.N_mono (ok' := fun k_ => (w.heap.size ≤ k_) ∧ some k_ ≠ (u11 : Value).ownBlock ∧ k_ ≠ g) ho0 (fun k_ hk_ => ⟨(Nat.le_trans (keep_size (w := w) (g := g) (row := none) ab3_) hk_), (Kd.fresh' (Kd.N_lt (aN_ HO_11.out)) k_ hk_), (IsS66.fresh ab4_ k_ hk_)⟩)) (keep_size (w := w) (g := g) (row := none) ab3_)); have n2_ := am (KeepBut.trans ab3_ hk (.inl rfl)); have n3_ := am (hb); have n4_ := am (hi); clear HO_11 HK HB HI0; have HO_11 := n0_; have HO413 := n1_; have HK := n2_; have HB := n3_; have HI0 := n4_; clear n0_ n1_ n2_ n3_ n4_; (try clear hb); (try clear hb2); (try clear hk); (try clear hi); (try clear ho0); obtain ⟨Ao13, co13, eo13⟩ := Kd.N_slice HO413.out; subst eo13) | ((with_reducible refine gate_builtin (b := .append) (xs := #[.tmp 19, .tmp 24]) rfl ?_); at_builtin; refine Kd.N_append_rows k37 w.heap.size rfl (.tmp 19) (.tmp 24) 31 37 (.agg #[(.int .i64 0), (.int .i64 0), (.int .i64 0), (.int .i64 0), (.int .i64 0), (.slice none 0 0), (.slice none 0 0), (.slice none 0 0)]) 112 rfl Try.underlying31 info37 rfl (by decide) (by omega) u11 x11_1 t411 _ _ _ (fun k_ => (w.heap.size ≤ k_) ∧ k_ ≠ g) (fun k_ => ((fun k_ => (w.heap.size ≤ k_) ∧ k_ ≠ g)) k_ ∧ some k_ ≠ (u11 : Value).ownBlock) rfl rfl ?aO ?aR (fun _ hk => hk) ?aF (Below.refl _ _) ?aS ?aL ?_; (case aR => exact (by skip; exact Kd.N_F (Kd.N_mono (ok' := (fun k_ => ((fun k_ => (w.heap.size ≤ k_) ∧ k_ ≠ g)) k_ ∧ some k_ ≠ (u11 : Value).ownBlock)) (HO413.out) (fun k_ hk => ⟨⟨hk.1, hk.2.2⟩, hk.2.1⟩)))); (case aF => exact (fun k_ hk => ⟨(Nat.le_trans (keep_size (w := w) (g := g) (row := none) ab3_) hk), IsS66.fresh ab4_ k_ hk⟩)); (case aO => exact (by (with_reducible repeat (first | apply Kd.N_alloc | apply Kd.N_drewN | apply Kd.N_drew)); exact Kd.N_mono HO_11.out (fun _ hk => ⟨hk.1.1, hk.1.2⟩))); (case aS => exact (keep_size (w := w) (g := g) (row := none) ab3_)); (case aL => have := LMc10.out; omega); intro v416 w12 ho hb hg hat; rw [← Ny415.out] at ho; have n0_ := am (IsS66.grown ab4_ hg (IsS66.own_neN HI0.out HO_11.out (by decide))); have n1_ := am (Kd.N_afterv (ok := (fun k_ => (w.heap.size ≤ k_) ∧ k_ ≠ g)) (by (with_reducible repeat (first | apply Kd.N_alloc | apply Kd.N_drewN | apply Kd.N_drew)); exact Kd.N_mono HO413.out (fun _ hk => ⟨⟨hk.1, hk.2.2⟩, hk.2.1⟩)) hg hat); have n2_ := am (below_weaken ab5_ HL.out hb); have n3_ := am (KeepBut.trans ab3_ (KeepBut.of_grown hg g) (Kd.N_base2 HO_11.out)); have n4_ := am (ho); clear HI0 HO413 HB HK HO_11; have HI0 := n0_; have HO413 := n1_; have HB := n2_; have HK := n3_; have HO417 := n4_; clear n0_ n1_ n2_ n3_ n4_ ho hb hg hat))
     go_roundg k1
     case measure => have := HK1.out; omega
     case rel => exact ⟨(y415), (wrap64 (x12_1 + 1)), (t414), (by first | rfl | (simp; done) | (simp [*]; done)), H', ⟨by have := HK1.out; omega⟩, ⟨by (with_reducible repeat (first | apply Kd.N_alloc | apply Kd.N_drewN | apply Kd.N_drew)); exact HO417.out⟩, ⟨ab4_⟩, ⟨ab3_⟩, ⟨ab5_⟩⟩
    rw [if_neg c10] at H
    exact absurd H (by simp)
   rw [if_neg c8] at H
   have c8b0 : decide (x12_1 < a3) = false := decide_eq_false c8
   clear c8
   simp only [Option.some.injEq, Prod.mk.injEq] at H
   obtain ⟨rfl, rfl⟩ := H
   go_wp2
   go_ret
   exact ⟨_, ab14_, by (with_reducible repeat (first | apply Kd.N_alloc | apply Kd.N_drewN | apply Kd.N_drew)); exact Kd.N_mono HO_11.out (fun _ hk => hk.1), ab4_, ab5_, ab3_⟩
theorem spec_l92If.calls_all (k : Nat) : spec_l92If.CallsAt k ∧ spec_l92Loop.CallsAt k ∧ spec_l92Stmt.CallsAt k ∧ spec_l92Block.CallsAt k := by
 induction k using Nat.strongRecOn with
 | _ k ih => exact ⟨spec_l92If.step k (fun m hm => (ih m hm).1) (fun m hm => (ih m hm).2.1) (fun m hm => (ih m hm).2.2.1) (fun m hm => (ih m hm).2.2.2), spec_l92Loop.step k (fun m hm => (ih m hm).1) (fun m hm => (ih m hm).2.1) (fun m hm => (ih m hm).2.2.1) (fun m hm => (ih m hm).2.2.2), spec_l92Stmt.step k (fun m hm => (ih m hm).1) (fun m hm => (ih m hm).2.1) (fun m hm => (ih m hm).2.2.1) (fun m hm => (ih m hm).2.2.2), spec_l92Block.step k (fun m hm => (ih m hm).1) (fun m hm => (ih m hm).2.1) (fun m hm => (ih m hm).2.2.1) (fun m hm => (ih m hm).2.2.2)⟩
theorem spec_l92If.calls (k : Nat) : spec_l92If.CallsAt k := (spec_l92If.calls_all k).1
theorem spec_l92Loop.calls (k : Nat) : spec_l92Loop.CallsAt k := (spec_l92If.calls_all k).2.1
theorem spec_l92Stmt.calls (k : Nat) : spec_l92Stmt.CallsAt k := (spec_l92If.calls_all k).2.2.1
theorem spec_l92Block.calls (k : Nat) : spec_l92Block.CallsAt k := (spec_l92If.calls_all k).2.2.2
end Go.Proofs.Ytpcbfcaacilghaa.PA


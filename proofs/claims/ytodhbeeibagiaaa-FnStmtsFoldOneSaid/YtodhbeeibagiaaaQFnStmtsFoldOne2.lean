/- Part 3 of the proof of FnStmtsFoldOne. -/
import Derived.Test.YtodhbeeibagiaaaQFnStmtsFoldOne1
set_option maxHeartbeats 8000000
set_option maxRecDepth 100000
namespace Go.Proofs.Ytodhbeeibagiaaa.PA
open Go.RowKit Go.Proofs.YtodhbeeibagiaaaW.PrintWords Go.Proofs.YtodhbeeibagiaaaW.PrintLast Go.Proofs.YtodhbeeibagiaaaW.PrintMore
attribute [local go_sem] max2_int min2_int max_two min_two max_three min_three max_four min_four
set_option linter.unusedVariables false
set_option linter.unusedSimpArgs false
theorem any_inv {P : Program} {ops : Array Oper} {Q : Exit → Act → World → Prop} {n : Nat} {T : Bool × List (List Nat × List Nat)} (hn : ops.size = n) (hT : rtab .any ops = T)
  (hac : (List.range n).all (fun i => match T.2[i]? with | some r => r.1.all (fun j => decide (j < i)) | none => false) = true)
  (I : (Nat → Bool) → Act → World → Prop)
  (hstep : ∀ (i : Nat) (b : Nat → Bool) (a : Act) (w : World), i < n → b i = false → (∀ r, T.2[i]? = some r → ∀ j ∈ r.1, b j = true) → (∀ j r, b j = true → T.2[j]? = some r → ∀ q ∈ r.1, b q = true) → I b a w → wpOp P ops Q i (fun a' w' => I (fun j => if j = i then true else b j) a' w') a w)
  (hdone : ∀ (b : Nat → Bool) (a : Act) (w : World), (∀ j, j < n → b j = true) → I b a w → Q .normal a w)
  (a : Act) (w : World) (h0 : I (fun _ => false) a w) : wpAny P .any ops Q n (Array.replicate n false) a w := by
 have key : ∀ (fuel : Nat) (l : Array Bool) (a : Act) (w : World), l.size = n → ((List.range n).countP (fun j => !l.getD j false)) ≤ fuel →
   (∀ j r, l.getD j false = true → T.2[j]? = some r → ∀ q ∈ r.1, l.getD q false = true) → I (fun j => l.getD j false) a w → wpAny P .any ops Q fuel l a w := by
  have all_of : ∀ l : Array Bool, l.size = n → Region.ready .any ops l = [] → ∀ j, j < n → l.getD j false = true := by
   intro l hl hr j
   induction j using Nat.strongRecOn with
   | _ j ih =>
   intro hj
   cases hb : l.getD j false with
   | true => rfl
   | false =>
    have hm : j ∈ Region.ready .any ops l := by
     rw [ready_eq, hT]
     unfold readyT
     have hlen : T.2.length = n := by rw [← hT, rtab_length, hn]
     rw [List.mem_filter, List.mem_range, hlen]
     refine ⟨hj, ?_⟩
     unfold readyAt
     have e1 : l.toList.getD j true = false := by
      rw [← gd]
      have hlt : j < l.size := by omega
      simp only [Array.getD_eq_getD_getElem?, Array.getElem?_eq_getElem hlt, Option.getD_some] at hb ⊢
      exact hb
     rw [e1]
     have h1 := List.all_eq_true.1 hac j (List.mem_range.2 hj)
     cases hq : T.2[j]? with
     | none => rw [hq] at h1; cases h1
     | some r =>
      rw [hq] at h1
      simp only [List.all_eq_true, decide_eq_true_eq] at h1
      simp only [Bool.not_false, Bool.true_and, List.all_eq_true]
      intro q hqm
      rw [← gd]
      exact ih q (h1 q hqm) (by have := h1 q hqm; omega)
    rw [hr] at hm
    cases hm
  intro fuel
  induction fuel with
  | zero =>
   intro l a w hl hc hcl hI
   have hall : ∀ j, j < n → l.getD j false = true := by
    intro j hj
    have := List.countP_eq_zero.1 (Nat.le_zero.1 hc) j (List.mem_range.2 hj)
    simpa using this
   refine ⟨?_, hdone _ a w hall hI⟩
   cases hr : Region.ready .any ops l with
   | nil => rfl
   | cons i rs =>
    have hm : i ∈ Region.ready .any ops l := by rw [hr]; exact List.mem_cons_self
    obtain ⟨h1, o, h2, _⟩ := mem_ready.1 hm
    have hi : i < l.size := by rw [hl, ← hn]; exact (Array.getElem?_eq_some_iff.1 h2).1
    have := hall i (by omega)
    simp only [Array.getD_eq_getD_getElem?, Array.getElem?_eq_getElem hi, Option.getD_some] at h1 this
    rw [h1] at this
    cases this
  | succ fuel ih =>
   intro l a w hl hc hcl hI
   refine ⟨fun hr => hdone _ a w (all_of l hl hr) hI, fun i hm => ?_⟩
   obtain ⟨h1, o, h2, h3⟩ := mem_ready.1 hm
   have hi : i < n := by rw [← hn]; exact (Array.getElem?_eq_some_iff.1 h2).1
   have hil : i < l.size := by omega
   have hbi : l.getD i false = false := by
    simp only [Array.getD_eq_getD_getElem?, Array.getElem?_eq_getElem hil, Option.getD_some] at h1 ⊢
    exact h1
   have hneed : ∀ r, T.2[i]? = some r → ∀ j ∈ r.1, l.getD j false = true := by
    intro r hr j hj
    rw [ready_eq, hT] at hm
    unfold readyT at hm
    have := (List.mem_filter.1 hm).2
    unfold readyAt at this
    rw [hr, Bool.and_eq_true] at this
    have h5 := List.all_eq_true.1 this.2 j hj
    rw [← gd] at h5
    exact h5
   have hf : ∀ j, (l.setIfInBounds i true).getD j false = if j = i then true else l.getD j false := by
    intro j
    by_cases hji : j = i
    ·subst hji
     rw [if_pos rfl]
     simp [Array.getD_eq_getD_getElem?, hil]
    rw [if_neg hji]
    simp [Array.getD_eq_getD_getElem?, Array.getElem?_setIfInBounds, Ne.symm hji]
   refine wpOp_mono (fun a' w' h' => ih _ a' w' (by rw [Array.size_setIfInBounds]; exact hl) ?_ ?_ ?_) (hstep i (fun j => l.getD j false) a w hi hbi hneed hcl hI)
   ·have hlt : (List.range n).countP (fun j => !(l.setIfInBounds i true).getD j false) < (List.range n).countP (fun j => !l.getD j false) := by
     rw [List.countP_eq_length_filter, List.countP_eq_length_filter]
     have hsub : ((List.range n).filter (fun j => !(l.setIfInBounds i true).getD j false)) = (((List.range n).filter (fun j => !l.getD j false)).filter (fun j => !(j == i))) := by
      rw [List.filter_filter]
      refine List.filter_congr (fun j _ => ?_)
      rw [hf j]
      by_cases hji : j = i
      ·subst hji
       simp
      rw [if_neg hji]
      simp [hji]
     rw [hsub]
     have hmem : i ∈ (List.range n).filter (fun j => !l.getD j false) := List.mem_filter.2 ⟨List.mem_range.2 hi, by rw [hbi]; rfl⟩
     exact List.length_filter_lt_length_iff_exists.2 ⟨i, hmem, by simp⟩
    omega
   ·intro j r hj hr q hq
    rw [hf] at hj ⊢
    by_cases hji : j = i
    ·subst hji
     split
     ·rfl
     ·exact hneed r hr q hq
    rw [if_neg hji] at hj
    split
    ·rfl
    ·exact hcl j r hj hr q hq
   ·have : (fun j => (l.setIfInBounds i true).getD j false) = fun j => if j = i then true else l.getD j false := funext hf
    rw [this]
    exact h'
 have hz : ∀ j, (Array.replicate n false).getD j false = false := by
  intro j
  simp only [Array.getD_eq_getD_getElem?, Array.getElem?_replicate]
  split <;> rfl
 refine key n _ a w (by simp) ?_ ?_ ?_
 ·exact Nat.le_trans List.countP_le_length (by rw [List.length_range]; exact Nat.le_refl _)
 ·intro j r hj
  rw [hz] at hj
  cases hj
 ·have : (fun j => (Array.replicate n false).getD j false) = fun _ => false := funext hz
  rw [this]
  exact h0
theorem zz_ {b : Nat → Bool} {j q : Nat} (h : b j = true → b q = true) (hq : b q = false) : b j = false := by
 cases e : b j with
 | false => rfl
 | true => rw [h e] at hq; cases hq
theorem empty_V {α : Type} (d : Kd α) (e : Nat) (w : World) (base : Nat) (A : Option Addr) (c : Nat) : Kd.V d e w base (fun _ => False) (.slice A ([] : List α).length c) [] :=
 ⟨A, c, rfl, Nat.zero_le _, fun W' _ => ⟨rfl, by simp, fun h => absurd h (Nat.lt_irrefl 0)⟩⟩
theorem empty_F {α : Type} (d : Kd α) (w : World) (ok : Nat → Prop) (A : Option Addr) : Kd.F d w ok A ([] : List α).length [] := fun W' _ => ⟨rfl, by simp, fun h => absurd h (Nat.lt_irrefl 0)⟩
theorem leaf_lit (a b : Int) (w : World) : Calls Try.prog 45 #[.int .i64 a, .int .i64 b] w fun e w' => ∃ A c, e = .returned (.agg #[.int .i64 a, .int .i64 b, .slice A 0 c]) ∧ Below w.heap.size w w' := by
 refine (spec_l4Leaf.calls a b a b [] w rfl).mono ?_
 rintro e w' ⟨v, rfl, hr, hb⟩
 obtain ⟨A, c, rfl⟩ := Kd.N_slice (Kd.R_N hr)
 exact ⟨A, c, rfl, hb⟩
theorem both_lit (o a1 b1 : Int) (A1 : Option Addr) (c1 : Nat) (a2 b2 : Int) (A2 : Option Addr) (c2 : Nat) (w : World) : Calls Try.prog 43 #[.int .i64 o, .agg #[.int .i64 a1, .int .i64 b1, .slice A1 0 c1], .agg #[.int .i64 a2, .int .i64 b2, .slice A2 0 c2]] w fun e w' => ∃ A c, e = .returned (.agg #[.int .i64 o, .int .i64 0, .slice A 2 c]) ∧ Kd.N k32 32 w' w.heap.size (fun k => w.heap.size ≤ k) (.slice A 2 c) [⟨a1, b1, []⟩, ⟨a2, b2, []⟩] ∧ Below w.heap.size w w' := by
 refine (spec_l4Both.calls o a1 b1 (fun _ => False) A1 c1 [] a2 b2 (fun _ => False) A2 c2 [] o 0 [⟨a1, b1, []⟩, ⟨a2, b2, []⟩] w (empty_V k32 32 w _ A1 c1) (empty_V k32 32 w _ A2 c2) rfl).mono ?_
 rintro e w' ⟨v, rfl, hr, hb⟩
 obtain ⟨A, c, rfl⟩ := Kd.N_slice hr
 exact ⟨A, c, rfl, Kd.N_mono hr (fun k hk => hk.elim (fun h => h.elim False.elim False.elim) id), hb⟩
structure F92 (w0 w W0 : World) (g h2 : Nat) (s0_0 : List Int) (t355 t377 t378 : Int) (v8 : Value) (t352 : List S35) (A30 : Option Addr) (c30 : Nat) (A33 : Option Addr) (c33 : Nat) (A34 : Option Addr) (c34 : Nat) (g10 : Nat) (b3 b6 b9 b10 b12 b13 : Bool) (W : World) : Prop where
 hK : KeepBut W0 W g (cond b10 v8.ownBlock none)
 hI : IsS91 w0 W g s0_0 (cond b3 t378 t355)
 hB : Below w0.heap.size w0 W
 h30 : b6 = true → Kd.N k32 32 W W0.heap.size (fun k => W0.heap.size ≤ k ∧ (b12 = true → k ≠ g10)) (.slice A30 2 c30) [⟨13, 3, []⟩, ⟨0, wrap64 (1 + t377), []⟩]
 h33 : b9 = true → Kd.N k35 35 W h2 (fun k => h2 ≤ k ∧ (b12 = true → k ≠ g10)) (.slice A33 1 c33) [(⟨1, 3, 0, ⟨8, 0, [⟨13, 3, []⟩, ⟨0, 1, []⟩]⟩, [], []⟩ : S35)]
 h34 : b10 = true → Kd.N k35 35 W w.heap.size (fun k => w.heap.size ≤ k ∧ (b12 = true → k ≠ g10)) (.slice A34 (t352 ++ [(⟨1, 3, 0, ⟨8, 0, [⟨13, 3, []⟩, ⟨0, 1, []⟩]⟩, [], []⟩ : S35)]).length c34) (t352 ++ [(⟨1, 3, 0, ⟨8, 0, [⟨13, 3, []⟩, ⟨0, 1, []⟩]⟩, [], []⟩ : S35)])
 h10 : b12 = true → W0.heap.size ≤ g10 ∧ W.heap[g10]? = some (.cells (cond b13 #[.int .i64 3, .int .i64 0, .int .i64 0, .int .i64 5, .int .i64 0, .slice A30 2 c30, .slice A34 (t352 ++ [(⟨1, 3, 0, ⟨8, 0, [⟨13, 3, []⟩, ⟨0, 1, []⟩]⟩, [], []⟩ : S35)]).length c34, .slice none 0 0] #[.int .i64 0, .int .i64 0, .int .i64 0, .int .i64 0, .int .i64 0, .slice none 0 0, .slice none 0 0, .slice none 0 0]) 35 (0, 0))
theorem F92.ext {w0 w W0 : World} {g h2 : Nat} {s0_0 : List Int} {t355 t377 t378 : Int} {v8 : Value} {t352 : List S35} {A30 : Option Addr} {c30 : Nat} {A33 : Option Addr} {c33 : Nat} {A34 : Option Addr} {c34 : Nat} {g10 : Nat} {b3 b6 b9 b10 b12 b13 : Bool} {W W' : World}
  (h : F92 w0 w W0 g h2 s0_0 t355 t377 t378 v8 t352 A30 c30 A33 c33 A34 c34 g10 b3 b6 b9 b10 b12 b13 W) (hb : Below W.heap.size W W') : F92 w0 w W0 g h2 s0_0 t355 t377 t378 v8 t352 A30 c30 A33 c33 A34 c34 g10 b3 b6 b9 b10 b12 b13 W' :=
 ⟨h.hK.trans (KeepBut.of_below hb g _) (.inl rfl), h.hI.below hb, below_step h.hB hb, fun e => Kd.N_below (h.h30 e) hb, fun e => Kd.N_below (h.h33 e) hb, fun e => Kd.N_below (h.h34 e) hb, fun e => ⟨(h.h10 e).1, blk_below (h.h10 e).2 hb⟩⟩
def a92 (g g9 : Nat) (a1 a2 t350 t377 : Int) (v8 : Value) (t352 : List S35) (A20 : Option Addr) (c20 : Nat) (A21 : Option Addr) (c21 : Nat) (A22 : Option Addr) (c22 : Nat) (A1 : Option Addr) (c1 : Nat) (A2 : Option Addr) (c2 : Nat) (A30 : Option Addr) (c30 : Nat) (A33 : Option Addr) (c33 : Nat) (A34 : Option Addr) (c34 : Nat) (g10 : Nat) (b0 b1 b2 b3 b4 b5 b6 b7 b8 b9 b10 b11 b12 b13 : Bool) : Act :=
 { tmps := #[(.pointer (some ⟨g, 0, none⟩)), (.int .i64 a1), (.int .i64 a2), undef, undef, undef, (.slice none 0 0), (.int .i64 3), v8, (.pointer (some ⟨g9, 0, none⟩)), cond b12 (.pointer (some ⟨g10, 0, none⟩)) undef, (.pointer (some ⟨g, 0, none⟩)), (.int .i64 a1), (.int .i64 a2), (.int .i64 (wrap64 (a2 - 1))), (.pointer (some ⟨g, 0, none⟩)), (.int .i64 t350), v8, (.int .i64 3), (.int .i64 3), (.agg #[.int .i64 13, .int .i64 3, .slice A20 0 c20]), (.agg #[.int .i64 0, .int .i64 1, .slice A21 0 c21]), (.agg #[.int .i64 8, .int .i64 0, .slice A22 2 c22]), (.agg #[.int .i64 1, .int .i64 3, .int .i64 0, .int .i64 8, .int .i64 0, .slice A22 2 c22, .slice none 0 0, .slice none 0 0]), cond b0 (.int .i64 3) undef, cond b1 (.agg #[.int .i64 13, .int .i64 3, .slice A1 0 c1]) undef, cond b2 (.pointer (some ⟨g, 0, none⟩)) undef, cond b3 (.int .i64 t377) undef, cond b4 (.int .i64 (wrap64 (1 + t377))) undef, cond b5 (.agg #[.int .i64 0, .int .i64 (wrap64 (1 + t377)), .slice A2 0 c2]) undef, cond b6 (.agg #[.int .i64 5, .int .i64 0, .slice A30 2 c30]) undef, cond b7 v8 undef, cond b8 (.agg #[.int .i64 1, .int .i64 3, .int .i64 0, .int .i64 8, .int .i64 0, .slice A22 2 c22, .slice none 0 0, .slice none 0 0]) undef, cond b9 (.slice A33 1 c33) undef, cond b10 (.slice A34 (t352 ++ [(⟨1, 3, 0, ⟨8, 0, [⟨13, 3, []⟩, ⟨0, 1, []⟩]⟩, [], []⟩ : S35)]).length c34) undef, cond b11 (.agg #[.int .i64 3, .int .i64 0, .int .i64 0, .int .i64 5, .int .i64 0, .slice A30 2 c30, .slice A34 (t352 ++ [(⟨1, 3, 0, ⟨8, 0, [⟨13, 3, []⟩, ⟨0, 1, []⟩]⟩, [], []⟩ : S35)]).length c34, .slice none 0 0]) undef, undef, undef, undef, undef, undef], defers := [] }
def L92 (w0 w W0 : World) (g g9 h2 : Nat) (s0_0 : List Int) (a1 a2 t350 t355 t377 t378 : Int) (v8 : Value) (t352 : List S35) (A20 : Option Addr) (c20 : Nat) (A21 : Option Addr) (c21 : Nat) (A22 : Option Addr) (c22 : Nat) (b0 b1 b2 b3 b4 b5 b6 b7 b8 b9 b10 b11 b12 b13 : Bool) (a : Act) (W : World) : Prop :=
 ∃ (A1 : Option Addr) (c1 : Nat) (A2 : Option Addr) (c2 : Nat) (A30 : Option Addr) (c30 : Nat) (A33 : Option Addr) (c33 : Nat) (A34 : Option Addr) (c34 : Nat) (g10 : Nat), a = a92 g g9 a1 a2 t350 t377 v8 t352 A20 c20 A21 c21 A22 c22 A1 c1 A2 c2 A30 c30 A33 c33 A34 c34 g10 b0 b1 b2 b3 b4 b5 b6 b7 b8 b9 b10 b11 b12 b13 ∧ F92 w0 w W0 g h2 s0_0 t355 t377 t378 v8 t352 A30 c30 A33 c33 A34 c34 g10 b3 b6 b9 b10 b12 b13 W
def spec_l92Loop.T4 : Bool × List (List Nat × List Nat) := (true, [([], []), ([0], [0]), ([], []), ([2, 1], [2]), ([3], [3]), ([4, 3], [4]), ([1, 5, 5], [1, 5]), ([], []), ([], []), ([8], [8]), ([7, 9, 6], [7, 9]), ([6, 10], [6, 10]), ([], []), ([12, 11, 10, 0, 1, 2, 3, 4, 5, 6, 7, 8, 9, 10, 11, 12], [11, 12])])
theorem spec_l92Loop.step (k : Nat) (ih_spec_l92If : ∀ m, m < k → spec_l92If.CallsAt m) (ih_spec_l92Loop : ∀ m, m < k → spec_l92Loop.CallsAt m) (ih_spec_l92Stmt : ∀ m, m < k → spec_l92Stmt.CallsAt m) (ih_spec_l92Block : ∀ m, m < k → spec_l92Block.CallsAt m) : spec_l92Loop.CallsAt k := by
 intro g s0_0 s0_1 a1 a2 r1 r2 w0 w hI hB h
 cases k with
 | zero => exact absurd h (by simp [spec_l92Loop.f])
 | succ k =>
 simp only [spec_l92Loop.f] at h
 replace h := Option.bind_eq_some_iff.mp h
 obtain ⟨⟨t350, t351⟩, hp, h⟩ := h
 replace h := Option.bind_eq_some_iff.mp h
 obtain ⟨⟨t352, t355⟩, hbk, h⟩ := h
 simp only [spec_l4Leaf.f, spec_l4Both.f, Option.bind_some] at h
 replace h := Option.bind_eq_some_iff.mp h
 obtain ⟨⟨t377, t378⟩, hp2, h⟩ := h
 dsimp only at h hp2 hbk
 by_cases c13 : t352.length + 1 < 1256584717458
 case neg =>
  rw [if_neg (by simpa using c13)] at h
  exact absurd h (by simp)
 rw [if_pos (by simpa using c13)] at h
 have h1 := Option.some.inj h
 injection h1 with h1 h2
 subst h2
 have A4 := am hp
 have A5 := am hbk
 have A10 := am hp2
 have LM := am c13
 have HR := am h1
 have HI := am hI
 have HB := am hB
 have HK := am (KeepBut.refl w g none)
 have HGW := am (IsS91.lt hI)
 clear h1 h hp hbk hp2 c13 hI hB
 go_enter Try.func104, Try.ntmps104
 go_wp2_with (first | ((with_reducible refine gate_callee (f := 41) rfl ?_); refine goesL_ (some 16) rfl rfl Try.func41 (by kernel_rfl) rfl #[.pointer (some ⟨g, 0, none⟩), .int .i64 3] rfl (by (try simp only [List.map_toArray, List.map_cons, List.map_nil]); first | done | rfl) ?_; (with_reducible refine (spec_l6Rd_pick.calls k g s0_0 s0_1 3 t350 t351 w0 _ ?side1 ?side2 A4.out).mono ?_); (case side1 => repeat (first | (with_reducible first | exact HI.out | apply IsS91.drewN | apply IsS91.drew) | exact HI.out)); (case side2 => repeat (first | (with_reducible first | exact HB.out | apply pw_below_drewN | apply below_drew1) | exact HB.out)); rintro e w15 ⟨rfl, hi, hb, hk⟩; refine ⟨_, rfl, ?_⟩; have n0_ := am (KeepBut.trans ab86_ hk (.inl rfl)); clear HK HB HI; have HK := n0_; have HB := am hb; have HI := am hi; have HS15 := am HK.out.1; clear n0_ hb hk hi) | ((with_reducible refine gate_callee (f := 77) rfl ?_); refine goesL_ (some 17) rfl rfl Try.func77 (by kernel_rfl) rfl #[.pointer (some ⟨g, 0, none⟩), .int .i64 a1, .int .i64 (wrap64 (a2 - 1)), .int .i64 t350, .bool false] rfl (by (try simp only [List.map_toArray, List.map_cons, List.map_nil]); first | done | rfl) ?_; (with_reducible refine (ih_spec_l92Block k (by omega) g s0_0 t351 a1 (wrap64 (a2 - 1)) t350 false t352 t355 w0 _ ?side1 ?side2 A5.out).mono ?_); (case side1 => repeat (first | (with_reducible first | exact HI.out | apply IsS91.drewN | apply IsS91.drew) | exact HI.out)); (case side2 => repeat (first | (with_reducible first | exact HB.out | apply pw_below_drewN | apply below_drew1) | exact HB.out)); rintro e w16 ⟨v8, rfl, ho0, hi, hb, hk⟩; refine ⟨_, rfl, ?_⟩; have n0_ := am (KeepBut.trans ab86_ hk (.inl rfl)); have n1_ := am (Kd.N_lower ho0 (by repeat (first | exact HK.out.1 | apply keep_drewN | apply keep_drew))); clear HK HB HI; have HK := n0_; have HB := am hb; have HI := am hi; have H8 := n1_; clear n0_ n1_ hb hk hi ho0) | ((with_reducible refine gate_callee (f := 45) rfl ?_); refine goesL_ (some 20) rfl rfl Try.func45 (by kernel_rfl) rfl #[.int .i64 13, .int .i64 3] rfl (by (try simp only [List.map_toArray, List.map_cons, List.map_nil]); first | done | rfl) ?_; (with_reducible refine (leaf_lit 13 3 _).mono ?_); rintro e w17 ⟨A20, c20, rfl, hb⟩; refine ⟨_, rfl, ?_⟩; have B17 := am hb; clear hb) | ((with_reducible refine gate_callee (f := 45) rfl ?_); refine goesL_ (some 21) rfl rfl Try.func45 (by kernel_rfl) rfl #[.int .i64 0, .int .i64 1] rfl (by (try simp only [List.map_toArray, List.map_cons, List.map_nil]); first | done | rfl) ?_; (with_reducible refine (leaf_lit 0 1 _).mono ?_); rintro e w18 ⟨A21, c21, rfl, hb⟩; refine ⟨_, rfl, ?_⟩; have B18 := am hb; clear hb) | ((with_reducible refine gate_callee (f := 43) rfl ?_); refine goesL_ (some 22) rfl rfl Try.func43 (by kernel_rfl) rfl #[.int .i64 8, .agg #[.int .i64 13, .int .i64 3, .slice A20 0 c20], .agg #[.int .i64 0, .int .i64 1, .slice A21 0 c21]] rfl (by (try simp only [List.map_toArray, List.map_cons, List.map_nil]); first | done | rfl) ?_; (with_reducible refine (both_lit 8 13 3 A20 c20 0 1 A21 c21 _).mono ?_); rintro e w19 ⟨A22, c22, rfl, hn22, hb⟩; refine ⟨_, rfl, ?_⟩; have N22 := am hn22; have B19 := am hb; clear hb hn22) | ((with_reducible refine gate_dst (N := 9) rfl ?_); refine box_event (N := 9) rfl rfl (cs := #[.int .i64 0, .int .i64 0, .int .i64 0, .int .i64 0, .int .i64 0, .slice none 0 0, .slice none 0 0, .slice none 0 0]) (t := 35) rn_ ?_; intro g9 hg w20 hbox hb; have HG9 := am (Nat.le_of_eq hg.symm); have B20 := am hb; have X9 := am hbox; have z9 := blk_frozen hbox 0; have z91 := blk_frozen hbox 1; have z92 := blk_frozen hbox 2; have z93 := blk_frozen hbox 3; have z94 := blk_frozen hbox 4; have z95 := blk_frozen hbox 5; have z96 := blk_frozen hbox 6; have z97 := blk_frozen hbox 7; have y90 := blk_cell hbox 0;  have y91 := blk_cell hbox 1; have y92 := blk_cell hbox 2; have y93 := blk_cell hbox 3; have y94 := blk_cell hbox 4; have y95 := blk_cell hbox 5; have y96 := blk_cell hbox 6; have y97 := blk_cell hbox 7; clear hb hg hbox) | fail)
 have HB9 : Aside0 (Below w16.heap.size w16 w19) := ⟨below_step (below_step B17.out B18.out) B19.out⟩
 have h1619 := HB9.out.size
 have h1920 := B20.out.size
 have h1819 := B19.out.size
 have h1618 := (below_step B17.out B18.out).size
 have h9lt := blk_lt X9.out
 have hg9 := HG9.out
 have hw16 := HK.out.1
 have hgw0 := HGW.out
 have b20 : Below w16.heap.size w16 w20 := below_step HB9.out B20.out
 have HWQ : Aside0 (Below w16.heap.size w16 ((((((((w20.setCell ⟨g9, 0, none⟩ (.int .i64 1)).setCell ⟨g9, 1, none⟩ (.int .i64 3)).setCell ⟨g9, 2, none⟩ (.int .i64 0)).setCell ⟨g9, 3, none⟩ (.int .i64 8)).setCell ⟨g9, 4, none⟩ (.int .i64 0)).setCell ⟨g9, 5, none⟩ (.slice A22 2 c22)).setCell ⟨g9, 6, none⟩ (.slice none 0 0)).setCell ⟨g9, 7, none⟩ (.slice none 0 0))) := ⟨(below_set (j := 7) (v := (.slice none 0 0)) (below_set (j := 6) (v := (.slice none 0 0)) (below_set (j := 5) (v := (.slice A22 2 c22)) (below_set (j := 4) (v := (.int .i64 0)) (below_set (j := 3) (v := (.int .i64 8)) (below_set (j := 2) (v := (.int .i64 0)) (below_set (j := 1) (v := (.int .i64 3)) (below_set (j := 0) (v := (.int .i64 1)) b20 (by omega)) (by omega)) (by omega)) (by omega)) (by omega)) (by omega)) (by omega)) (by omega))⟩
 have X9' : Aside0 (((((((((w20.setCell ⟨g9, 0, none⟩ (.int .i64 1)).setCell ⟨g9, 1, none⟩ (.int .i64 3)).setCell ⟨g9, 2, none⟩ (.int .i64 0)).setCell ⟨g9, 3, none⟩ (.int .i64 8)).setCell ⟨g9, 4, none⟩ (.int .i64 0)).setCell ⟨g9, 5, none⟩ (.slice A22 2 c22)).setCell ⟨g9, 6, none⟩ (.slice none 0 0)).setCell ⟨g9, 7, none⟩ (.slice none 0 0)).heap[g9]? = some (.cells #[(.int .i64 1), (.int .i64 3), (.int .i64 0), (.int .i64 8), (.int .i64 0), (.slice A22 2 c22), (.slice none 0 0), (.slice none 0 0)] 35 (0, 0))) := ⟨(blk_put (cs' := #[(.int .i64 1), (.int .i64 3), (.int .i64 0), (.int .i64 8), (.int .i64 0), (.slice A22 2 c22), (.slice none 0 0), (.slice none 0 0)]) (blk_put (cs' := #[(.int .i64 1), (.int .i64 3), (.int .i64 0), (.int .i64 8), (.int .i64 0), (.slice A22 2 c22), (.slice none 0 0), (.slice none 0 0)]) (blk_put (cs' := #[(.int .i64 1), (.int .i64 3), (.int .i64 0), (.int .i64 8), (.int .i64 0), (.slice A22 2 c22), (.slice none 0 0), (.slice none 0 0)]) (blk_put (cs' := #[(.int .i64 1), (.int .i64 3), (.int .i64 0), (.int .i64 8), (.int .i64 0), (.slice none 0 0), (.slice none 0 0), (.slice none 0 0)]) (blk_put (cs' := #[(.int .i64 1), (.int .i64 3), (.int .i64 0), (.int .i64 8), (.int .i64 0), (.slice none 0 0), (.slice none 0 0), (.slice none 0 0)]) (blk_put (cs' := #[(.int .i64 1), (.int .i64 3), (.int .i64 0), (.int .i64 0), (.int .i64 0), (.slice none 0 0), (.slice none 0 0), (.slice none 0 0)]) (blk_put (cs' := #[(.int .i64 1), (.int .i64 3), (.int .i64 0), (.int .i64 0), (.int .i64 0), (.slice none 0 0), (.slice none 0 0), (.slice none 0 0)]) (blk_put (cs' := #[(.int .i64 1), (.int .i64 0), (.int .i64 0), (.int .i64 0), (.int .i64 0), (.slice none 0 0), (.slice none 0 0), (.slice none 0 0)]) X9.out 0 (.int .i64 1) rfl) 1 (.int .i64 3) rfl) 2 (.int .i64 0) rfl) 3 (.int .i64 8) rfl) 4 (.int .i64 0) rfl) 5 (.slice A22 2 c22) rfl) 6 (.slice none 0 0) rfl) 7 (.slice none 0 0) rfl)⟩
 have N22' : Aside0 (Kd.N k32 32 ((((((((w20.setCell ⟨g9, 0, none⟩ (.int .i64 1)).setCell ⟨g9, 1, none⟩ (.int .i64 3)).setCell ⟨g9, 2, none⟩ (.int .i64 0)).setCell ⟨g9, 3, none⟩ (.int .i64 8)).setCell ⟨g9, 4, none⟩ (.int .i64 0)).setCell ⟨g9, 5, none⟩ (.slice A22 2 c22)).setCell ⟨g9, 6, none⟩ (.slice none 0 0)).setCell ⟨g9, 7, none⟩ (.slice none 0 0)) w18.heap.size (fun k => (w18.heap.size ≤ k ∧ k < w19.heap.size) ∧ k ≠ g9) (.slice A22 2 c22) [⟨13, 3, []⟩, ⟨0, 1, []⟩]) := ⟨(Kd.N_far (p := ⟨g9, 7, none⟩) (Kd.N_far (p := ⟨g9, 6, none⟩) (Kd.N_far (p := ⟨g9, 5, none⟩) (Kd.N_far (p := ⟨g9, 4, none⟩) (Kd.N_far (p := ⟨g9, 3, none⟩) (Kd.N_far (p := ⟨g9, 2, none⟩) (Kd.N_far (p := ⟨g9, 1, none⟩) (Kd.N_far (p := ⟨g9, 0, none⟩) (Kd.N_mono (Kd.N_below (Kd.N_bound N22.out) B20.out) (fun q (hq : w18.heap.size ≤ q ∧ q < w19.heap.size) => (⟨hq, by have := hq.2; omega⟩ : (w18.heap.size ≤ q ∧ q < w19.heap.size) ∧ q ≠ g9))) (fun q hq => hq.2) (.int .i64 1)) (fun q hq => hq.2) (.int .i64 3)) (fun q hq => hq.2) (.int .i64 0)) (fun q hq => hq.2) (.int .i64 8)) (fun q hq => hq.2) (.int .i64 0)) (fun q hq => hq.2) (.slice A22 2 c22)) (fun q hq => hq.2) (.slice none 0 0)) (fun q hq => hq.2) (.slice none 0 0))⟩
 clear y90 y91 y92 y93 y94 y95 y96 y97 z9 z91 z92 z93 z94 z95 z96 z97 X9
 generalize ((((((((w20.setCell ⟨g9, 0, none⟩ (.int .i64 1)).setCell ⟨g9, 1, none⟩ (.int .i64 3)).setCell ⟨g9, 2, none⟩ (.int .i64 0)).setCell ⟨g9, 3, none⟩ (.int .i64 8)).setCell ⟨g9, 4, none⟩ (.int .i64 0)).setCell ⟨g9, 5, none⟩ (.slice A22 2 c22)).setCell ⟨g9, 6, none⟩ (.slice none 0 0)).setCell ⟨g9, 7, none⟩ (.slice none 0 0)) = w27 at HWQ X9' N22' ⊢
 have h27 := HWQ.out.size
 have h27' := blk_lt X9'.out
 refine wp_region_any (by kernel_rfl) ?_
 have B9 := am (blk_drew X9'.out)
 have N22_ := Kd.N_drew N22'.out
 have H8_ := Kd.N_drew (Kd.N_below (Kd.N_mono (Kd.N_bound H8.out) (fun q (hq : w15.heap.size ≤ q ∧ q < w16.heap.size) => (⟨by have := hq.1; have := HS15.out; omega, hq.2⟩ : w.heap.size ≤ q ∧ q < w16.heap.size))) HWQ.out)
 have HI_ := IsS91.drew (HI.out.below HWQ.out)
 have HB_ := below_drew1 (below_step HB.out HWQ.out)
 have HK_ := keep_drew (KeepBut.trans HK.out (KeepBut.of_below HWQ.out g none) (.inl rfl))
 have hsz : w27.drew.heap.size = w27.heap.size := rfl
 show wpAny _ _ _ _ _ _ _ w27.drew
 generalize w27.drew = W0 at B9 N22_ H8_ HI_ HB_ HK_ hsz ⊢
 have N22 : Aside0 (Kd.N k32 32 W0 w18.heap.size (fun k => w16.heap.size ≤ k ∧ k < W0.heap.size) (.slice A22 2 c22) [⟨13, 3, []⟩, ⟨0, 1, []⟩]) := ⟨Kd.N_mono N22_ (fun q hq => ⟨by have := hq.1.1; omega, by have := hq.1.2; omega⟩)⟩
 have H8' := am H8_
 have HI' := am HI_
 have HB' := am HB_
 have HK' := am HK_
 have H24 : Aside0 (w16.heap.size ≤ W0.heap.size) := ⟨by omega⟩
 have HH2 : Aside0 (w.heap.size ≤ w16.heap.size) := ⟨hw16⟩
 have NE9 : Aside0 (g9 ≠ g) := ⟨by omega⟩
 clear N22_ H8_ HI_ HB_ HK_ HI HB HK H8 N22' X9' HWQ b20 HB9 hsz h27 h27' h1619 h1920 h1819 h1618 h9lt hg9 B17 B18 B19 B20 HG9 HS15 hw16 hgw0
 generalize w16.heap.size = h2 at *
 have H8 := H8'
 clear H8'
 refine any_inv (n := 14) (T := spec_l92Loop.T4) rfl (by kernel_rfl) (by decide) (fun b a W => L92 w0 w W0 g g9 h2 s0_0 a1 a2 t350 t355 t377 t378 v8 t352 A20 c20 A21 c21 A22 c22 (b 0) (b 1) (b 2) (b 3) (b 4) (b 5) (b 6) (b 7) (b 8) (b 9) (b 10) (b 11) (b 12) (b 13) a W) ?hstep ?hdone _ _ ?hstart
 case hstart => exact ⟨none, 0, none, 0, none, 0, none, 0, none, 0, 0, rfl, ⟨KeepBut.refl _ _ _, HI'.out, HB'.out, (fun e => Bool.noConfusion e), (fun e => Bool.noConfusion e), (fun e => Bool.noConfusion e), (fun e => Bool.noConfusion e)⟩⟩
 case hstep =>
  intro i b a W hi hbi hneed hcl hI
  have hcase : i = 0 ∨ i = 1 ∨ i = 2 ∨ i = 3 ∨ i = 4 ∨ i = 5 ∨ i = 6 ∨ i = 7 ∨ i = 8 ∨ i = 9 ∨ i = 10 ∨ i = 11 ∨ i = 12 ∨ i = 13 := by omega
  rcases hcase with rfl | rfl | rfl | rfl | rfl | rfl | rfl | rfl | rfl | rfl | rfl | rfl | rfl | rfl
  ·
   have z1 := zz_ (fun h => hcl 1 _ h rfl 0 (by decide)) hbi
   have z3 := zz_ (fun h => hcl 3 _ h rfl 1 (by decide)) z1
   have z4 := zz_ (fun h => hcl 4 _ h rfl 3 (by decide)) z3
   have z5 := zz_ (fun h => hcl 5 _ h rfl 3 (by decide)) z3
   have z6 := zz_ (fun h => hcl 6 _ h rfl 1 (by decide)) z1
   have z10 := zz_ (fun h => hcl 10 _ h rfl 6 (by decide)) z6
   have z11 := zz_ (fun h => hcl 11 _ h rfl 6 (by decide)) z6
   have z13 := zz_ (fun h => hcl 13 _ h rfl 0 (by decide)) hbi
   simp only [hbi, z1, z3, z4, z5, z6, z10, z11, z13] at hI
   obtain ⟨A1, c1, A2, c2, A30, c30, A33, c33, A34, c34, g10, rfl, h⟩ := hI
   have hgw := HGW.out
   have hh2 := HH2.out
   have h24 := H24.out
   refine wpOp_step rfl (fun K' hK' => ?_)
   simp (decide := true) only [if_true, if_false, reduceIte, z1, z3, z4, z5, z6, z10, z11, z13] at hK'
   refine event_step (W := W) (w1 := W) (v := ?_) (by rfl) ?_ ?_
   rotate_left
   ·(try simp only [a92, cond_true, cond_false])
    go_simp
    first | with_reducible rfl | rfl
   refine hK' _ _ (⟨A1, c1, A2, c2, A30, c30, A33, c33, A34, c34, g10, ?_, h⟩)
   show Act.put _ (some 24) _ = _
   simp only [a92, Act.put, List.setIfInBounds_toArray, List.set_cons_zero, List.set_cons_succ, i64_w, i32_w]
   rfl
  ·
   have hn_ := hneed _ rfl
   have n0 := hn_ 0 (by decide)
   have z3 := zz_ (fun h => hcl 3 _ h rfl 1 (by decide)) hbi
   have z4 := zz_ (fun h => hcl 4 _ h rfl 3 (by decide)) z3
   have z5 := zz_ (fun h => hcl 5 _ h rfl 3 (by decide)) z3
   have z6 := zz_ (fun h => hcl 6 _ h rfl 1 (by decide)) hbi
   have z10 := zz_ (fun h => hcl 10 _ h rfl 6 (by decide)) z6
   have z11 := zz_ (fun h => hcl 11 _ h rfl 6 (by decide)) z6
   have z13 := zz_ (fun h => hcl 13 _ h rfl 1 (by decide)) hbi
   simp only [hbi, n0, z3, z4, z5, z6, z10, z11, z13] at hI
   obtain ⟨A1, c1, A2, c2, A30, c30, A33, c33, A34, c34, g10, rfl, h⟩ := hI
   have hgw := HGW.out
   have hh2 := HH2.out
   have h24 := H24.out
   refine wpOp_step rfl (fun K' hK' => ?_)
   simp (decide := true) only [if_true, if_false, reduceIte, n0, z3, z4, z5, z6, z10, z11, z13] at hK'
   refine goes_ Try.func45 (by kernel_rfl) rfl #[.int .i64 13, .int .i64 3] (by rfl) rfl rfl (by (try simp only [List.map_toArray, List.map_cons, List.map_nil]); first | done | rfl) ?_
   refine (leaf_lit 13 3 _).mono ?_
   rintro e W' ⟨A, c, rfl, hb⟩
   refine ⟨_, rfl, hK' _ _ (⟨A, c, A2, c2, A30, c30, A33, c33, A34, c34, g10, ?_, h.ext hb⟩)⟩
   show Act.put _ (some 25) _ = _
   simp only [a92, Act.put, List.setIfInBounds_toArray, List.set_cons_zero, List.set_cons_succ]
   rfl
  ·
   have z3 := zz_ (fun h => hcl 3 _ h rfl 2 (by decide)) hbi
   have z4 := zz_ (fun h => hcl 4 _ h rfl 3 (by decide)) z3
   have z5 := zz_ (fun h => hcl 5 _ h rfl 3 (by decide)) z3
   have z6 := zz_ (fun h => hcl 6 _ h rfl 5 (by decide)) z5
   have z10 := zz_ (fun h => hcl 10 _ h rfl 6 (by decide)) z6
   have z11 := zz_ (fun h => hcl 11 _ h rfl 6 (by decide)) z6
   have z13 := zz_ (fun h => hcl 13 _ h rfl 2 (by decide)) hbi
   simp only [hbi, z3, z4, z5, z6, z10, z11, z13] at hI
   obtain ⟨A1, c1, A2, c2, A30, c30, A33, c33, A34, c34, g10, rfl, h⟩ := hI
   have hgw := HGW.out
   have hh2 := HH2.out
   have h24 := H24.out
   refine wpOp_step rfl (fun K' hK' => ?_)
   simp (decide := true) only [if_true, if_false, reduceIte, z3, z4, z5, z6, z10, z11, z13] at hK'
   refine event_step (W := W) (w1 := W) (v := ?_) (by rfl) ?_ ?_
   rotate_left
   ·(try simp only [a92, cond_true, cond_false])
    go_simp
    first | with_reducible rfl | rfl
   refine hK' _ _ (⟨A1, c1, A2, c2, A30, c30, A33, c33, A34, c34, g10, ?_, h⟩)
   show Act.put _ (some 26) _ = _
   simp only [a92, Act.put, List.setIfInBounds_toArray, List.set_cons_zero, List.set_cons_succ, i64_w, i32_w]
   rfl
  ·
   have hn_ := hneed _ rfl
   have n1 := hn_ 1 (by decide)
   have n2 := hn_ 2 (by decide)
   have z4 := zz_ (fun h => hcl 4 _ h rfl 3 (by decide)) hbi
   have z5 := zz_ (fun h => hcl 5 _ h rfl 3 (by decide)) hbi
   have z6 := zz_ (fun h => hcl 6 _ h rfl 5 (by decide)) z5
   have z10 := zz_ (fun h => hcl 10 _ h rfl 6 (by decide)) z6
   have z11 := zz_ (fun h => hcl 11 _ h rfl 6 (by decide)) z6
   have z13 := zz_ (fun h => hcl 13 _ h rfl 3 (by decide)) hbi
   simp only [hbi, n1, n2, z4, z5, z6, z10, z11, z13] at hI
   obtain ⟨A1, c1, A2, c2, A30, c30, A33, c33, A34, c34, g10, rfl, h⟩ := hI
   have hgw := HGW.out
   have hh2 := HH2.out
   have h24 := H24.out
   refine wpOp_step rfl (fun K' hK' => ?_)
   simp (decide := true) only [if_true, if_false, reduceIte, n1, n2, z4, z5, z6, z10, z11, z13] at hK'
   refine goes_ Try.func41 (by kernel_rfl) rfl #[.pointer (some ⟨g, 0, none⟩), .int .i64 3] (by rfl) rfl rfl (by (try simp only [List.map_toArray, List.map_cons, List.map_nil]); first | done | rfl) ?_
   refine (spec_l6Rd_pick.calls k g s0_0 t355 3 t377 t378 w0 _ h.hI h.hB A10.out).mono ?_
   rintro e W' ⟨rfl, hi, hb, hk⟩
   have hlt := h.hK.1
   refine ⟨_, rfl, hK' _ _ (⟨A1, c1, A2, c2, A30, c30, A33, c33, A34, c34, g10, ?_, ⟨h.hK.trans hk ?_, hi, hb, fun e => Kd.N_keep (h.h30 e) hk (fun q hq => ?_), fun e => Kd.N_keep (h.h33 e) hk (fun q hq => ?_), fun e => Kd.N_keep (h.h34 e) hk (fun q hq => ?_), fun e => ⟨(h.h10 e).1, hk.blk (h.h10 e).2 ?_ (by simp)⟩⟩⟩)⟩
   ·show Act.put _ (some 27) _ = _
    simp only [a92, Act.put, List.setIfInBounds_toArray, List.set_cons_zero, List.set_cons_succ]
    rfl
   ·exact .inl rfl
   ·have := hq.1; omega
   ·have := hq.1; omega
   ·have := hq.1; omega
   ·have := (h.h10 e).1; omega
  ·
   have hn_ := hneed _ rfl
   have n3 := hn_ 3 (by decide)
   have z5 := zz_ (fun h => hcl 5 _ h rfl 4 (by decide)) hbi
   have z6 := zz_ (fun h => hcl 6 _ h rfl 5 (by decide)) z5
   have z10 := zz_ (fun h => hcl 10 _ h rfl 6 (by decide)) z6
   have z11 := zz_ (fun h => hcl 11 _ h rfl 6 (by decide)) z6
   have z13 := zz_ (fun h => hcl 13 _ h rfl 4 (by decide)) hbi
   simp only [hbi, n3, z5, z6, z10, z11, z13] at hI
   obtain ⟨A1, c1, A2, c2, A30, c30, A33, c33, A34, c34, g10, rfl, h⟩ := hI
   have hgw := HGW.out
   have hh2 := HH2.out
   have h24 := H24.out
   refine wpOp_step rfl (fun K' hK' => ?_)
   simp (decide := true) only [if_true, if_false, reduceIte, n3, z5, z6, z10, z11, z13] at hK'
   refine event_step (W := W) (w1 := W) (v := ?_) (by rfl) ?_ ?_
   rotate_left
   ·(try simp only [a92, cond_true, cond_false])
    go_simp
    first | with_reducible rfl | rfl
   refine hK' _ _ (⟨A1, c1, A2, c2, A30, c30, A33, c33, A34, c34, g10, ?_, h⟩)
   show Act.put _ (some 28) _ = _
   simp only [a92, Act.put, List.setIfInBounds_toArray, List.set_cons_zero, List.set_cons_succ, i64_w, i32_w]
   rfl
  ·
   have hn_ := hneed _ rfl
   have n3 := hn_ 3 (by decide)
   have n4 := hn_ 4 (by decide)
   have z6 := zz_ (fun h => hcl 6 _ h rfl 5 (by decide)) hbi
   have z10 := zz_ (fun h => hcl 10 _ h rfl 6 (by decide)) z6
   have z11 := zz_ (fun h => hcl 11 _ h rfl 6 (by decide)) z6
   have z13 := zz_ (fun h => hcl 13 _ h rfl 5 (by decide)) hbi
   simp only [hbi, n3, n4, z6, z10, z11, z13] at hI
   obtain ⟨A1, c1, A2, c2, A30, c30, A33, c33, A34, c34, g10, rfl, h⟩ := hI
   have hgw := HGW.out
   have hh2 := HH2.out
   have h24 := H24.out
   refine wpOp_step rfl (fun K' hK' => ?_)
   simp (decide := true) only [if_true, if_false, reduceIte, n3, n4, z6, z10, z11, z13] at hK'
   refine goes_ Try.func45 (by kernel_rfl) rfl #[.int .i64 0, .int .i64 (wrap64 (1 + t377))] (by rfl) rfl rfl (by (try simp only [List.map_toArray, List.map_cons, List.map_nil]); first | done | rfl) ?_
   refine (leaf_lit 0 (wrap64 (1 + t377)) _).mono ?_
   rintro e W' ⟨A, c, rfl, hb⟩
   refine ⟨_, rfl, hK' _ _ (⟨A1, c1, A, c, A30, c30, A33, c33, A34, c34, g10, ?_, h.ext hb⟩)⟩
   show Act.put _ (some 29) _ = _
   simp only [a92, Act.put, List.setIfInBounds_toArray, List.set_cons_zero, List.set_cons_succ]
   rfl
  ·
   have hn_ := hneed _ rfl
   have n1 := hn_ 1 (by decide)
   have n5 := hn_ 5 (by decide)
   have z10 := zz_ (fun h => hcl 10 _ h rfl 6 (by decide)) hbi
   have z11 := zz_ (fun h => hcl 11 _ h rfl 6 (by decide)) hbi
   have z13 := zz_ (fun h => hcl 13 _ h rfl 6 (by decide)) hbi
   simp only [hbi, n1, n5, z10, z11, z13] at hI
   obtain ⟨A1, c1, A2, c2, A30, c30, A33, c33, A34, c34, g10, rfl, h⟩ := hI
   have hgw := HGW.out
   have hh2 := HH2.out
   have h24 := H24.out
   refine wpOp_step rfl (fun K' hK' => ?_)
   simp (decide := true) only [if_true, if_false, reduceIte, n1, n5, z10, z11, z13] at hK'
   refine goes_ Try.func43 (by kernel_rfl) rfl #[.int .i64 5, (.agg #[.int .i64 13, .int .i64 3, .slice A1 0 c1]), (.agg #[.int .i64 0, .int .i64 (wrap64 (1 + t377)), .slice A2 0 c2])] (by rfl) rfl rfl (by (try simp only [List.map_toArray, List.map_cons, List.map_nil]); first | done | rfl) ?_
   refine (both_lit 5 13 3 A1 c1 0 (wrap64 (1 + t377)) A2 c2 _).mono ?_
   rintro e W' ⟨A, c, rfl, hn, hb⟩
   have hlt := h.hK.1
   have h' := h.ext hb
   refine ⟨_, rfl, hK' _ _ (⟨A1, c1, A2, c2, A, c, A33, c33, A34, c34, g10, ?_, ⟨h'.hK, h'.hI, h'.hB, fun _ => Kd.N_mono (Kd.N_lower hn hlt) (fun q hq => ⟨Nat.le_trans hlt hq, fun e => ?_⟩), h'.h33, (fun e => Bool.noConfusion e), fun e => ⟨(h'.h10 e).1, (h'.h10 e).2⟩⟩⟩)⟩
   ·show Act.put _ (some 30) _ = _
    simp only [a92, Act.put, List.setIfInBounds_toArray, List.set_cons_zero, List.set_cons_succ]
    rfl
   ·have := blk_lt (h.h10 e).2; omega
  ·
   have z10 := zz_ (fun h => hcl 10 _ h rfl 7 (by decide)) hbi
   have z11 := zz_ (fun h => hcl 11 _ h rfl 10 (by decide)) z10
   have z13 := zz_ (fun h => hcl 13 _ h rfl 7 (by decide)) hbi
   simp only [hbi, z10, z11, z13] at hI
   obtain ⟨A1, c1, A2, c2, A30, c30, A33, c33, A34, c34, g10, rfl, h⟩ := hI
   have hgw := HGW.out
   have hh2 := HH2.out
   have h24 := H24.out
   refine wpOp_step rfl (fun K' hK' => ?_)
   simp (decide := true) only [if_true, if_false, reduceIte, z10, z11, z13] at hK'
   refine event_step (W := W) (w1 := W) (v := ?_) (by rfl) ?_ ?_
   rotate_left
   ·(try simp only [a92, cond_true, cond_false])
    go_simp
    first | with_reducible rfl | rfl
   refine hK' _ _ (⟨A1, c1, A2, c2, A30, c30, A33, c33, A34, c34, g10, ?_, h⟩)
   show Act.put _ (some 31) _ = _
   simp only [a92, Act.put, List.setIfInBounds_toArray, List.set_cons_zero, List.set_cons_succ, i64_w, i32_w]
   rfl
  ·
   have z9 := zz_ (fun h => hcl 9 _ h rfl 8 (by decide)) hbi
   have z10 := zz_ (fun h => hcl 10 _ h rfl 9 (by decide)) z9
   have z11 := zz_ (fun h => hcl 11 _ h rfl 10 (by decide)) z10
   have z13 := zz_ (fun h => hcl 13 _ h rfl 8 (by decide)) hbi
   simp only [hbi, z9, z10, z11, z13] at hI
   obtain ⟨A1, c1, A2, c2, A30, c30, A33, c33, A34, c34, g10, rfl, h⟩ := hI
   have hgw := HGW.out
   have hh2 := HH2.out
   have h24 := H24.out
   refine wpOp_step rfl (fun K' hK' => ?_)
   simp (decide := true) only [if_true, if_false, reduceIte, z9, z10, z11, z13] at hK'
   have h9 := h.hK.blk B9.out NE9.out (by simp)
   have q0 : W.cell? ⟨g9, 0, none⟩ = some (.int .i64 1) := blk_cell h9 0
   have q1 : W.cell? ⟨g9, 1, none⟩ = some (.int .i64 3) := blk_cell h9 1
   have q2 : W.cell? ⟨g9, 2, none⟩ = some (.int .i64 0) := blk_cell h9 2
   have q3 : W.cell? ⟨g9, 3, none⟩ = some (.int .i64 8) := blk_cell h9 3
   have q4 : W.cell? ⟨g9, 4, none⟩ = some (.int .i64 0) := blk_cell h9 4
   have q5 : W.cell? ⟨g9, 5, none⟩ = some (.slice A22 2 c22) := blk_cell h9 5
   have q6 : W.cell? ⟨g9, 6, none⟩ = some (.slice none 0 0) := blk_cell h9 6
   have q7 : W.cell? ⟨g9, 7, none⟩ = some (.slice none 0 0) := blk_cell h9 7
   refine event_step (W := W) (w1 := W) (v := ?_) (by rfl) ?_ ?_
   rotate_left
   ·(try simp only [a92, cond_true, cond_false])
    go_simp
    first | with_reducible rfl | rfl
   refine hK' _ _ (⟨A1, c1, A2, c2, A30, c30, A33, c33, A34, c34, g10, ?_, h⟩)
   show Act.put _ (some 32) _ = _
   simp only [a92, Act.put, List.setIfInBounds_toArray, List.set_cons_zero, List.set_cons_succ, i64_w, i32_w]
   rfl
  ·
   have hn_ := hneed _ rfl
   have n8 := hn_ 8 (by decide)
   have z10 := zz_ (fun h => hcl 10 _ h rfl 9 (by decide)) hbi
   have z11 := zz_ (fun h => hcl 11 _ h rfl 10 (by decide)) z10
   have z13 := zz_ (fun h => hcl 13 _ h rfl 9 (by decide)) hbi
   simp only [hbi, n8, z10, z11, z13] at hI
   obtain ⟨A1, c1, A2, c2, A30, c30, A33, c33, A34, c34, g10, rfl, h⟩ := hI
   have hgw := HGW.out
   have hh2 := HH2.out
   have h24 := H24.out
   refine wpOp_step rfl (fun K' hK' => ?_)
   simp (decide := true) only [if_true, if_false, reduceIte, n8, z10, z11, z13] at hK'
   have hlt := h.hK.1
   have hn22 := Kd.N_keep N22.out (show KeepBut W0 W g none from h.hK) (fun q hq => by have := hq.1; omega)
   refine Kd.N_lit_step k35 W.heap.size 35 ?hg (N' := 33) ?hd (w0 := W) (xs := [(⟨1, 3, 0, ⟨8, 0, [⟨13, 3, []⟩, ⟨0, 1, []⟩]⟩, [], []⟩ : S35)]) (inner := [.int .i64 1, .int .i64 3, .int .i64 0, .int .i64 8, .int .i64 0, .slice A22 2 c22, .slice none 0 0, .slice none 0 0]) (ok := fun k => h2 ≤ k ∧ (b 12 = true → k ≠ g10)) (okp := fun k => h2 ≤ k ∧ k < W0.heap.size) ?hr ?hp ?ho ?hf (Below.refl _ _) (Nat.le_refl _) (by simp) ?_
   case hd => rfl
   case hg => rfl
   case hr => (try simp only [a92, cond_true, cond_false]); first | (go_simp; done) | (go_simp; rfl)
   case hp => exact Reps.c8 (show Kd.FK k35 _ _ ((⟨1, 3, 0, ⟨8, 0, [⟨13, 3, []⟩, ⟨0, 1, []⟩]⟩, [], []⟩ : S35) : S35) [.int .i64 1, .int .i64 3, .int .i64 0, .int .i64 8, .int .i64 0, .slice A22 2 c22, .slice none 0 0, .slice none 0 0] from k35_mkF _ _ ((⟨1, 3, 0, ⟨8, 0, [⟨13, 3, []⟩, ⟨0, 1, []⟩]⟩, [], []⟩ : S35) : S35) (Kd.N_reads' hn22).2.1 (Kd.N_F hn22) (Nat.le_refl _) (Kd.F_nil _ _ _) (Nat.le_refl _) (Kd.F_nil _ _ _)) (Reps.none _ _)
   case ho => exact fun q hq => ⟨hq.1, fun e => by have := (h.h10 e).1; omega⟩
   case hf => exact ⟨by have := H24.out; omega, fun e => by have := blk_lt (h.h10 e).2; omega⟩
   intro v1 W' hn hb _ _
   obtain ⟨A, c, rfl⟩ := Kd.N_slice hn
   have h' := h.ext hb
   refine hK' _ _ (⟨A1, c1, A2, c2, A30, c30, A, c, A34, c34, g10, ?_, ⟨h'.hK, h'.hI, h'.hB, h'.h30, fun _ => Kd.N_lower hn (by have := H24.out; omega), h'.h34, h'.h10⟩⟩)
   show Act.put _ (some 33) _ = _
   simp only [a92, Act.put, List.setIfInBounds_toArray, List.set_cons_zero, List.set_cons_succ]
   rfl
  ·
   have hn_ := hneed _ rfl
   have n6 := hn_ 6 (by decide)
   have n7 := hn_ 7 (by decide)
   have n9 := hn_ 9 (by decide)
   have z11 := zz_ (fun h => hcl 11 _ h rfl 10 (by decide)) hbi
   have z13 := zz_ (fun h => hcl 13 _ h rfl 10 (by decide)) hbi
   simp only [hbi, n6, n7, n9, z11, z13] at hI
   obtain ⟨A1, c1, A2, c2, A30, c30, A33, c33, A34, c34, g10, rfl, h⟩ := hI
   have hgw := HGW.out
   have hh2 := HH2.out
   have h24 := H24.out
   refine wpOp_step rfl (fun K' hK' => ?_)
   simp (decide := true) only [if_true, if_false, reduceIte, n6, n7, n9, z11, z13] at hK'
   have hlt := h.hK.1
   have hK0 : KeepBut W0 W g none := h.hK
   have h8 := Kd.N_keep H8.out hK0 (fun q hq => by have := hq.1; omega)
   have hn33 := h.h33 rfl
   have own8 : ∀ q, v8.ownBlock = some q → w.heap.size ≤ q ∧ q < h2 := fun q hq => H8.out.1 q hq
   refine Kd.N_append_rows_step k35 (w0 := W) w.heap.size (by rfl) (.tmp 31) (.tmp 33) 23 35 (.agg #[.int .i64 0, .int .i64 0, .int .i64 0, .int .i64 0, .int .i64 0, .slice none 0 0, .slice none 0 0, .slice none 0 0]) 112 rfl Try.underlying23 info35 rfl (by decide) (by omega) v8 t352 [(⟨1, 3, 0, ⟨8, 0, [⟨13, 3, []⟩, ⟨0, 1, []⟩]⟩, [], []⟩ : S35)] A33 1 c33 (fun k => w.heap.size ≤ k ∧ (b 12 = true → k ≠ g10)) (fun k => h2 ≤ k ∧ (b 12 = true → k ≠ g10)) rfl rfl (Kd.N_mono h8 ?aO) (Kd.N_F hn33) ?aK ?aF ?aB ?aS ?aL ?_
   case aO => exact fun q hq => ⟨hq.1, fun e => by have := (h.h10 e).1; have := hq.2; have := H24.out; omega⟩
   case aK => exact fun q hq => ⟨⟨by have := HH2.out; have := hq.1; omega, hq.2⟩, fun e => by have := (own8 q e.symm).2; have := hq.1; omega⟩
   case aF => exact fun q hq => ⟨by have := HH2.out; have := H24.out; omega, fun e => by have := blk_lt (h.h10 e).2; omega⟩
   case aB => exact Below.refl _ _
   case aS => have := HH2.out; have := H24.out; omega
   case aL => have := LM.out; omega
   intro v1 W' hn hb hg hat
   obtain ⟨A, c, rfl⟩ := Kd.N_slice hn
   have ne : ∀ q, h2 ≤ q → some q ≠ v8.ownBlock := fun q hq e => by have := (own8 q e.symm).2; omega
   have neg : some g ≠ v8.ownBlock := fun e => by have := (own8 g e.symm).1; omega
   refine hK' _ _ (⟨A1, c1, A2, c2, A30, c30, A33, c33, A, c, g10, ?_, ⟨KeepBut.trans (row := v8.ownBlock) ⟨hK0.1, fun q hq hq2 _ => hK0.2 q hq hq2 (by simp)⟩ (KeepBut.of_grown hg g) (.inl rfl), h.hI.grown hg neg, below_weaken h.hB (Nat.le_of_lt (Nat.lt_of_le_of_lt h.hI.ge hgw)) hb, fun e => Kd.N_step (h.h30 e) (fun q hq hl => hg.block q hl (ne q (by have := hq.1; omega))), fun _ => Kd.N_step hn33 (fun q hq hl => hg.block q hl (ne q hq.1)), fun _ => hn, fun e => ⟨(h.h10 e).1, blk_grown (h.h10 e).2 hg (ne _ (by have := (h.h10 e).1; have := H24.out; omega))⟩⟩⟩)
   show Act.put _ (some 34) _ = _
   simp only [a92, Act.put, List.setIfInBounds_toArray, List.set_cons_zero, List.set_cons_succ]
   rfl
  ·
   have hn_ := hneed _ rfl
   have n6 := hn_ 6 (by decide)
   have n10 := hn_ 10 (by decide)
   have z13 := zz_ (fun h => hcl 13 _ h rfl 11 (by decide)) hbi
   simp only [hbi, n6, n10, z13] at hI
   obtain ⟨A1, c1, A2, c2, A30, c30, A33, c33, A34, c34, g10, rfl, h⟩ := hI
   have hgw := HGW.out
   have hh2 := HH2.out
   have h24 := H24.out
   refine wpOp_step rfl (fun K' hK' => ?_)
   simp (decide := true) only [if_true, if_false, reduceIte, n6, n10, z13] at hK'
   refine event_step (W := W) (w1 := W) (v := .agg #[.int .i64 3, .int .i64 0, .int .i64 0, .int .i64 5, .int .i64 0, .slice A30 2 c30, .slice A34 (t352 ++ [(⟨1, 3, 0, ⟨8, 0, [⟨13, 3, []⟩, ⟨0, 1, []⟩]⟩, [], []⟩ : S35)]).length c34, .slice none 0 0]) (by rfl) ?_ ?_
   ·(try simp only [a92, cond_true, cond_false])
    go_simp
    (try rfl)
   refine hK' _ _ (⟨A1, c1, A2, c2, A30, c30, A33, c33, A34, c34, g10, ?_, h⟩)
   show Act.put _ (some 35) _ = _
   simp only [a92, Act.put, List.setIfInBounds_toArray, List.set_cons_zero, List.set_cons_succ, i64_w, i32_w]
   rfl
  ·
   have z13 := zz_ (fun h => hcl 13 _ h rfl 12 (by decide)) hbi
   simp only [hbi, z13] at hI
   obtain ⟨A1, c1, A2, c2, A30, c30, A33, c33, A34, c34, g10, rfl, h⟩ := hI
   have hgw := HGW.out
   have hh2 := HH2.out
   have h24 := H24.out
   refine wpOp_step rfl (fun K' hK' => ?_)
   simp (decide := true) only [if_true, if_false, reduceIte, z13] at hK'
   refine box_step ?hg (N := 10) ?hd (cs := #[.int .i64 0, .int .i64 0, .int .i64 0, .int .i64 0, .int .i64 0, .slice none 0 0, .slice none 0 0, .slice none 0 0]) (t := 35) ?hr ?_
   case hd => rfl
   case hg => rfl
   case hr => (try simp only [a92, cond_true, cond_false]); first | (go_simp; done) | (go_simp; rfl)
   intro gb hgb W' hbox hb
   have hlt := h.hK.1
   have h' := h.ext hb
   refine hK' _ _ (⟨A1, c1, A2, c2, A30, c30, A33, c33, A34, c34, gb, ?_, ⟨h'.hK, h'.hI, h'.hB, fun e => Kd.N_mono (Kd.N_below (Kd.N_bound (h.h30 e)) hb) (fun q hq => ⟨hq.1.1, fun _ => by have := hq.2; omega⟩), fun e => Kd.N_mono (Kd.N_below (Kd.N_bound (h.h33 e)) hb) (fun q hq => ⟨hq.1.1, fun _ => by have := hq.2; omega⟩), fun e => Kd.N_mono (Kd.N_below (Kd.N_bound (h.h34 e)) hb) (fun q hq => ⟨hq.1.1, fun _ => by have := hq.2; omega⟩), fun _ => ⟨by omega, hbox⟩⟩⟩)
   show Act.put _ (some 10) _ = _
   simp only [a92, Act.put, List.setIfInBounds_toArray, List.set_cons_zero, List.set_cons_succ]
   rfl
  ·
   have hn_ := hneed _ rfl
   have n0 := hn_ 0 (by decide)
   have n1 := hn_ 1 (by decide)
   have n2 := hn_ 2 (by decide)
   have n3 := hn_ 3 (by decide)
   have n4 := hn_ 4 (by decide)
   have n5 := hn_ 5 (by decide)
   have n6 := hn_ 6 (by decide)
   have n7 := hn_ 7 (by decide)
   have n8 := hn_ 8 (by decide)
   have n9 := hn_ 9 (by decide)
   have n10 := hn_ 10 (by decide)
   have n11 := hn_ 11 (by decide)
   have n12 := hn_ 12 (by decide)
   simp only [hbi, n0, n1, n2, n3, n4, n5, n6, n7, n8, n9, n10, n11, n12] at hI
   obtain ⟨A1, c1, A2, c2, A30, c30, A33, c33, A34, c34, g10, rfl, h⟩ := hI
   have hgw := HGW.out
   have hh2 := HH2.out
   have h24 := H24.out
   refine wpOp_step rfl (fun K' hK' => ?_)
   simp (decide := true) only [if_true, if_false, reduceIte, n0, n1, n2, n3, n4, n5, n6, n7, n8, n9, n10, n11, n12] at hK'
   obtain ⟨hg10, hbx⟩ := h.h10 rfl
   replace hbx : W.heap[g10]? = some (.cells #[.int .i64 0, .int .i64 0, .int .i64 0, .int .i64 0, .int .i64 0, .slice none 0 0, .slice none 0 0, .slice none 0 0] 35 (0, 0)) := hbx
   have hlt := h.hK.1
   have q0 : W.cell? ⟨g10, 0, none⟩ = some (.int .i64 0) := blk_cell hbx 0
   have f0 := blk_frozen hbx 0
   have q1 : W.cell? ⟨g10, 1, none⟩ = some (.int .i64 0) := blk_cell hbx 1
   have f1 := blk_frozen hbx 1
   have q2 : W.cell? ⟨g10, 2, none⟩ = some (.int .i64 0) := blk_cell hbx 2
   have f2 := blk_frozen hbx 2
   have q3 : W.cell? ⟨g10, 3, none⟩ = some (.int .i64 0) := blk_cell hbx 3
   have f3 := blk_frozen hbx 3
   have q4 : W.cell? ⟨g10, 4, none⟩ = some (.int .i64 0) := blk_cell hbx 4
   have f4 := blk_frozen hbx 4
   have q5 : W.cell? ⟨g10, 5, none⟩ = some (.slice none 0 0) := blk_cell hbx 5
   have f5 := blk_frozen hbx 5
   have q6 : W.cell? ⟨g10, 6, none⟩ = some (.slice none 0 0) := blk_cell hbx 6
   have f6 := blk_frozen hbx 6
   have q7 : W.cell? ⟨g10, 7, none⟩ = some (.slice none 0 0) := blk_cell hbx 7
   have f7 := blk_frozen hbx 7
   refine skip_ (w1 := ((((((((W.setCell ⟨g10, 0, none⟩ (.int .i64 3)).setCell ⟨g10, 1, none⟩ (.int .i64 0)).setCell ⟨g10, 2, none⟩ (.int .i64 0)).setCell ⟨g10, 3, none⟩ (.int .i64 5)).setCell ⟨g10, 4, none⟩ (.int .i64 0)).setCell ⟨g10, 5, none⟩ (.slice A30 2 c30)).setCell ⟨g10, 6, none⟩ (.slice A34 (t352 ++ [(⟨1, 3, 0, ⟨8, 0, [⟨13, 3, []⟩, ⟨0, 1, []⟩]⟩, [], []⟩ : S35)]).length c34)).setCell ⟨g10, 7, none⟩ (.slice none 0 0))) (by rfl) rfl ?_ ?_
   ·(try simp only [a92, cond_true, cond_false])
    go_simp
    (try rfl)
   have ng : g ≠ g10 := by omega
   have hb0 : w0.heap.size ≤ g10 := Nat.le_trans h.hI.ge (by omega)
   refine hK' _ _ (⟨A1, c1, A2, c2, A30, c30, A33, c33, A34, c34, g10, rfl, ⟨(keep_far (p := ⟨g10, 7, none⟩) (keep_far (p := ⟨g10, 6, none⟩) (keep_far (p := ⟨g10, 5, none⟩) (keep_far (p := ⟨g10, 4, none⟩) (keep_far (p := ⟨g10, 3, none⟩) (keep_far (p := ⟨g10, 2, none⟩) (keep_far (p := ⟨g10, 1, none⟩) (keep_far (p := ⟨g10, 0, none⟩) h.hK hg10 (.int .i64 3)) hg10 (.int .i64 0)) hg10 (.int .i64 0)) hg10 (.int .i64 5)) hg10 (.int .i64 0)) hg10 (.slice A30 2 c30)) hg10 (.slice A34 (t352 ++ [(⟨1, 3, 0, ⟨8, 0, [⟨13, 3, []⟩, ⟨0, 1, []⟩]⟩, [], []⟩ : S35)]).length c34)) hg10 (.slice none 0 0)), (IsS91.far (p := ⟨g10, 7, none⟩) (IsS91.far (p := ⟨g10, 6, none⟩) (IsS91.far (p := ⟨g10, 5, none⟩) (IsS91.far (p := ⟨g10, 4, none⟩) (IsS91.far (p := ⟨g10, 3, none⟩) (IsS91.far (p := ⟨g10, 2, none⟩) (IsS91.far (p := ⟨g10, 1, none⟩) (IsS91.far (p := ⟨g10, 0, none⟩) h.hI ng (.int .i64 3)) ng (.int .i64 0)) ng (.int .i64 0)) ng (.int .i64 5)) ng (.int .i64 0)) ng (.slice A30 2 c30)) ng (.slice A34 (t352 ++ [(⟨1, 3, 0, ⟨8, 0, [⟨13, 3, []⟩, ⟨0, 1, []⟩]⟩, [], []⟩ : S35)]).length c34)) ng (.slice none 0 0)), (below_set (j := 7) (v := (.slice none 0 0)) (below_set (j := 6) (v := (.slice A34 (t352 ++ [(⟨1, 3, 0, ⟨8, 0, [⟨13, 3, []⟩, ⟨0, 1, []⟩]⟩, [], []⟩ : S35)]).length c34)) (below_set (j := 5) (v := (.slice A30 2 c30)) (below_set (j := 4) (v := (.int .i64 0)) (below_set (j := 3) (v := (.int .i64 5)) (below_set (j := 2) (v := (.int .i64 0)) (below_set (j := 1) (v := (.int .i64 0)) (below_set (j := 0) (v := (.int .i64 3)) h.hB hb0) hb0) hb0) hb0) hb0) hb0) hb0) hb0), fun e => (Kd.N_far (p := ⟨g10, 7, none⟩) (Kd.N_far (p := ⟨g10, 6, none⟩) (Kd.N_far (p := ⟨g10, 5, none⟩) (Kd.N_far (p := ⟨g10, 4, none⟩) (Kd.N_far (p := ⟨g10, 3, none⟩) (Kd.N_far (p := ⟨g10, 2, none⟩) (Kd.N_far (p := ⟨g10, 1, none⟩) (Kd.N_far (p := ⟨g10, 0, none⟩) (h.h30 rfl) (fun q hq => hq.2 rfl) (.int .i64 3)) (fun q hq => hq.2 rfl) (.int .i64 0)) (fun q hq => hq.2 rfl) (.int .i64 0)) (fun q hq => hq.2 rfl) (.int .i64 5)) (fun q hq => hq.2 rfl) (.int .i64 0)) (fun q hq => hq.2 rfl) (.slice A30 2 c30)) (fun q hq => hq.2 rfl) (.slice A34 (t352 ++ [(⟨1, 3, 0, ⟨8, 0, [⟨13, 3, []⟩, ⟨0, 1, []⟩]⟩, [], []⟩ : S35)]).length c34)) (fun q hq => hq.2 rfl) (.slice none 0 0)), fun e => (Kd.N_far (p := ⟨g10, 7, none⟩) (Kd.N_far (p := ⟨g10, 6, none⟩) (Kd.N_far (p := ⟨g10, 5, none⟩) (Kd.N_far (p := ⟨g10, 4, none⟩) (Kd.N_far (p := ⟨g10, 3, none⟩) (Kd.N_far (p := ⟨g10, 2, none⟩) (Kd.N_far (p := ⟨g10, 1, none⟩) (Kd.N_far (p := ⟨g10, 0, none⟩) (h.h33 rfl) (fun q hq => hq.2 rfl) (.int .i64 3)) (fun q hq => hq.2 rfl) (.int .i64 0)) (fun q hq => hq.2 rfl) (.int .i64 0)) (fun q hq => hq.2 rfl) (.int .i64 5)) (fun q hq => hq.2 rfl) (.int .i64 0)) (fun q hq => hq.2 rfl) (.slice A30 2 c30)) (fun q hq => hq.2 rfl) (.slice A34 (t352 ++ [(⟨1, 3, 0, ⟨8, 0, [⟨13, 3, []⟩, ⟨0, 1, []⟩]⟩, [], []⟩ : S35)]).length c34)) (fun q hq => hq.2 rfl) (.slice none 0 0)), fun e => (Kd.N_far (p := ⟨g10, 7, none⟩) (Kd.N_far (p := ⟨g10, 6, none⟩) (Kd.N_far (p := ⟨g10, 5, none⟩) (Kd.N_far (p := ⟨g10, 4, none⟩) (Kd.N_far (p := ⟨g10, 3, none⟩) (Kd.N_far (p := ⟨g10, 2, none⟩) (Kd.N_far (p := ⟨g10, 1, none⟩) (Kd.N_far (p := ⟨g10, 0, none⟩) (h.h34 rfl) (fun q hq => hq.2 rfl) (.int .i64 3)) (fun q hq => hq.2 rfl) (.int .i64 0)) (fun q hq => hq.2 rfl) (.int .i64 0)) (fun q hq => hq.2 rfl) (.int .i64 5)) (fun q hq => hq.2 rfl) (.int .i64 0)) (fun q hq => hq.2 rfl) (.slice A30 2 c30)) (fun q hq => hq.2 rfl) (.slice A34 (t352 ++ [(⟨1, 3, 0, ⟨8, 0, [⟨13, 3, []⟩, ⟨0, 1, []⟩]⟩, [], []⟩ : S35)]).length c34)) (fun q hq => hq.2 rfl) (.slice none 0 0)), fun _ => ⟨hg10, (blk_put (cs' := #[(.int .i64 3), (.int .i64 0), (.int .i64 0), (.int .i64 5), (.int .i64 0), (.slice A30 2 c30), (.slice A34 (t352 ++ [(⟨1, 3, 0, ⟨8, 0, [⟨13, 3, []⟩, ⟨0, 1, []⟩]⟩, [], []⟩ : S35)]).length c34), (.slice none 0 0)]) (blk_put (cs' := #[(.int .i64 3), (.int .i64 0), (.int .i64 0), (.int .i64 5), (.int .i64 0), (.slice A30 2 c30), (.slice A34 (t352 ++ [(⟨1, 3, 0, ⟨8, 0, [⟨13, 3, []⟩, ⟨0, 1, []⟩]⟩, [], []⟩ : S35)]).length c34), (.slice none 0 0)]) (blk_put (cs' := #[(.int .i64 3), (.int .i64 0), (.int .i64 0), (.int .i64 5), (.int .i64 0), (.slice A30 2 c30), (.slice none 0 0), (.slice none 0 0)]) (blk_put (cs' := #[(.int .i64 3), (.int .i64 0), (.int .i64 0), (.int .i64 5), (.int .i64 0), (.slice none 0 0), (.slice none 0 0), (.slice none 0 0)]) (blk_put (cs' := #[(.int .i64 3), (.int .i64 0), (.int .i64 0), (.int .i64 5), (.int .i64 0), (.slice none 0 0), (.slice none 0 0), (.slice none 0 0)]) (blk_put (cs' := #[(.int .i64 3), (.int .i64 0), (.int .i64 0), (.int .i64 0), (.int .i64 0), (.slice none 0 0), (.slice none 0 0), (.slice none 0 0)]) (blk_put (cs' := #[(.int .i64 3), (.int .i64 0), (.int .i64 0), (.int .i64 0), (.int .i64 0), (.slice none 0 0), (.slice none 0 0), (.slice none 0 0)]) (blk_put (cs' := #[(.int .i64 3), (.int .i64 0), (.int .i64 0), (.int .i64 0), (.int .i64 0), (.slice none 0 0), (.slice none 0 0), (.slice none 0 0)]) hbx 0 (.int .i64 3) rfl) 1 (.int .i64 0) rfl) 2 (.int .i64 0) rfl) 3 (.int .i64 5) rfl) 4 (.int .i64 0) rfl) 5 (.slice A30 2 c30) rfl) 6 (.slice A34 (t352 ++ [(⟨1, 3, 0, ⟨8, 0, [⟨13, 3, []⟩, ⟨0, 1, []⟩]⟩, [], []⟩ : S35)]).length c34) rfl) 7 (.slice none 0 0) rfl)⟩⟩⟩)
 case hdone =>
  intro b a W hall hI
  replace hI : L92 w0 w W0 g g9 h2 s0_0 a1 a2 t350 t355 t377 t378 v8 t352 A20 c20 A21 c21 A22 c22 (b 0) (b 1) (b 2) (b 3) (b 4) (b 5) (b 6) (b 7) (b 8) (b 9) (b 10) (b 11) (b 12) (b 13) a W := hI
  rw [hall 0 (by decide), hall 1 (by decide), hall 2 (by decide), hall 3 (by decide), hall 4 (by decide), hall 5 (by decide), hall 6 (by decide), hall 7 (by decide), hall 8 (by decide), hall 9 (by decide), hall 10 (by decide), hall 11 (by decide), hall 12 (by decide), hall 13 (by decide)] at hI
  obtain ⟨A1, c1, A2, c2, A30, c30, A33, c33, A34, c34, g10, rfl, h⟩ := hI
  simp only [a92, cond_true]
  try go_wp2
  have own8 : ∀ q, v8.ownBlock = some q → w.heap.size ≤ q := fun q hq => (H8.out.1 q hq).1
  have hh2 := HH2.out
  have h24 := H24.out
  have HKW : Aside0 (KeepBut w W g none) := ⟨KeepBut.trans HK'.out h.hK (by cases hv : v8.ownBlock with | none => exact .inl rfl | some q => exact .inr ⟨q, rfl, own8 q hv⟩)⟩
  have HN30 := am (Kd.N_mono (h.h30 rfl) (ok' := fun q => w.heap.size ≤ q) (fun q hq => by have := hq.1; omega))
  have HN34 := am (Kd.N_mono (h.h34 rfl) (ok' := fun q => w.heap.size ≤ q) (fun q hq => hq.1))
  have h10' := am (show W.heap[g10]? = some (.cells #[.int .i64 3, .int .i64 0, .int .i64 0, .int .i64 5, .int .i64 0, .slice A30 2 c30, .slice A34 (t352 ++ [(⟨1, 3, 0, ⟨8, 0, [⟨13, 3, []⟩, ⟨0, 1, []⟩]⟩, [], []⟩ : S35)]).length c34, .slice none 0 0] 35 (0, 0)) from (h.h10 rfl).2)
  have HIW := am (show IsS91 w0 W g s0_0 t378 from h.hI)
  have HBW := am h.hB
  clear h hall own8 hh2 h24 HI' HB' HK' H24 HH2 H8
  refine start_ (n := 6) (S := fun w' => w'.cell? ⟨g10, 0, none⟩ = some (.int .i64 3) ∧ w'.cell? ⟨g10, 1, none⟩ = some (.int .i64 0) ∧ w'.cell? ⟨g10, 2, none⟩ = some (.int .i64 0) ∧ w'.cell? ⟨g10, 3, none⟩ = some (.int .i64 5) ∧ w'.cell? ⟨g10, 4, none⟩ = some (.int .i64 0) ∧ w'.cell? ⟨g10, 5, none⟩ = some (.slice A30 2 c30) ∧ w'.cell? ⟨g10, 6, none⟩ = some (.slice A34 (t352 ++ [(⟨1, 3, 0, ⟨8, 0, [⟨13, 3, []⟩, ⟨0, 1, []⟩]⟩, [], []⟩ : S35)]).length c34) ∧ w'.cell? ⟨g10, 7, none⟩ = some (.slice none 0 0)) (ds := []) #[false, false, false, false, false, false] (by kernel_rfl) rfl rfl ⟨(blk_cell h10'.out 0).trans rfl, (blk_cell h10'.out 1).trans rfl, (blk_cell h10'.out 2).trans rfl, (blk_cell h10'.out 3).trans rfl, (blk_cell h10'.out 4).trans rfl, (blk_cell h10'.out 5).trans rfl, (blk_cell h10'.out 6).trans rfl, (blk_cell h10'.out 7).trans rfl⟩ (fun hHeld => ?_)
  have n1_ := am (keep_drew HKW.out)
  have n2_ := am (Kd.N_drew HN30.out)
  have n3_ := am (Kd.N_drew HN34.out)
  have n4_ := am (blk_drew h10'.out)
  have n5_ := am (IsS91.drew HIW.out)
  have n6_ := am (below_drew1 HBW.out)
  clear HKW HN30 HN34 h10' HIW HBW
  have HKW := n1_
  have HN30 := n2_
  have HN34 := n3_
  have h10' := n4_
  have HIW := n5_
  have HBW := n6_
  clear n1_ n2_ n3_ n4_ n5_ n6_
  generalize W.drew = W1 at HKW HN30 HN34 h10' HIW HBW hHeld ⊢
  refine pure_ (i := 0) (N := some 36) (v := ?_) (a' := ?_) #[true, false, false, false, false, false] rfl rfl (by kernel_rfl) (fun _ _ _ h => h) (Or.inl ⟨by rfl, ?_⟩) ?_ ?_
  rotate_left
  ·intro w'
   go_simp
   with_reducible rfl
  rotate_left
  ·simp only [Act.put, List.setIfInBounds_toArray, List.set_cons_zero, List.set_cons_succ, i64_w, i32_w]
   rfl
  refine take_ (i := 3) (N := some 39) (v := ?_) (a' := ?_) #[true, false, false, true, false, false] rfl rfl (by kernel_rfl) (fun _ _ _ h => h) (Or.inl ⟨by rfl, ?_⟩) hHeld ?_ ?_
  rotate_left
  ·rintro w' ⟨s0, s1, s2, s3, s4, s5, s6, s7⟩
   go_simp
   with_reducible rfl
  rotate_left
  ·simp only [Act.put, List.setIfInBounds_toArray, List.set_cons_zero, List.set_cons_succ, i64_w, i32_w]
   rfl
  refine one_ (i := 1) (N := some 37) #[true, true, false, true, false, false] rfl rfl (by kernel_rfl) (by decide) (fun K hK => ?_)
  refine goes_ Try.func45 (by kernel_rfl) rfl #[.int .i64 0, .int .i64 0] (by rfl) rfl rfl (by (try simp only [List.map_toArray, List.map_cons, List.map_nil]); first | done | rfl) ?_
  refine (leaf_lit 0 0 _).mono ?_
  rintro e W2 ⟨AL, cL, rfl, hb⟩
  refine ⟨_, rfl, ?_⟩
  have n1_ := am (KeepBut.trans HKW.out (KeepBut.of_below hb g none) (.inl rfl))
  have n2_ := am (Kd.N_below HN30.out hb)
  have n3_ := am (Kd.N_below HN34.out hb)
  have n4_ := am (blk_below h10'.out hb)
  have n5_ := am (HIW.out.below hb)
  have n6_ := am (below_step HBW.out hb)
  clear HKW HN30 HN34 h10' HIW HBW
  have HKW := n1_
  have HN30 := n2_
  have HN34 := n3_
  have h10' := n4_
  have HIW := n5_
  have HBW := n6_
  clear n1_ n2_ n3_ n4_ n5_ n6_ hb
  refine hK.out _ _ ⟨(blk_cell h10'.out 0).trans rfl, (blk_cell h10'.out 1).trans rfl, (blk_cell h10'.out 2).trans rfl, (blk_cell h10'.out 3).trans rfl, (blk_cell h10'.out 4).trans rfl, (blk_cell h10'.out 5).trans rfl, (blk_cell h10'.out 6).trans rfl, (blk_cell h10'.out 7).trans rfl⟩ (fun hHeld => ?_)
  clear hK K
  refine norm_ (a' := ?_) ?_ ?_
  rotate_left
  ·show Act.put _ (some 37) _ = _
   simp only [Act.put, List.setIfInBounds_toArray, List.set_cons_zero, List.set_cons_succ, i64_w, i32_w]
   rfl
  refine pure_ (i := 2) (N := some 38) (v := ?_) (a' := ?_) #[true, true, true, true, false, false] rfl rfl (by kernel_rfl) (fun _ _ _ h => h) (Or.inl ⟨by rfl, ?_⟩) ?_ ?_
  rotate_left
  ·intro w'
   go_simp
   with_reducible rfl
  rotate_left
  ·simp only [Act.put, List.setIfInBounds_toArray, List.set_cons_zero, List.set_cons_succ, i64_w, i32_w]
   rfl
  refine one_ (i := 4) (N := some 40) #[true, true, true, true, true, false] rfl rfl (by kernel_rfl) (by decide) (fun K hK => ?_)
  have hkw := HKW.out.1
  refine Kd.N_lit_step k35 W2.heap.size 35 ?hg (N' := 40) ?hd (w0 := W2) (xs := [(⟨1, 3, 0, ⟨0, 0, []⟩, [], []⟩ : S35), (⟨3, 0, 0, ⟨5, 0, [⟨13, 3, []⟩, ⟨0, wrap64 (1 + t377), []⟩]⟩, t352 ++ [⟨1, 3, 0, ⟨8, 0, [⟨13, 3, []⟩, ⟨0, 1, []⟩]⟩, [], []⟩], []⟩ : S35)]) (inner := [.int .i64 1, .int .i64 3, .int .i64 0, .int .i64 0, .int .i64 0, .slice AL 0 cL, .slice none 0 0, .slice none 0 0, .int .i64 3, .int .i64 0, .int .i64 0, .int .i64 5, .int .i64 0, .slice A30 2 c30, .slice A34 (t352 ++ [(⟨1, 3, 0, ⟨8, 0, [⟨13, 3, []⟩, ⟨0, 1, []⟩]⟩, [], []⟩ : S35)]).length c34, .slice none 0 0]) (ok := fun q => w.heap.size ≤ q) (okp := fun q => w.heap.size ≤ q) ?hr ?hp (fun _ hq => hq) ?hf (Below.refl _ _) (Nat.le_refl _) (by simp) ?_
  case hd => rfl
  case hg => rfl
  case hr => first | (go_simp; done) | (go_simp; rfl)
  case hf => exact hkw
  case hp => exact Reps.c8 (show Kd.FK k35 _ _ (⟨1, 3, 0, ⟨0, 0, []⟩, [], []⟩ : S35) [.int .i64 1, .int .i64 3, .int .i64 0, .int .i64 0, .int .i64 0, .slice AL 0 cL, .slice none 0 0, .slice none 0 0] from k35_mkF _ _ (⟨1, 3, 0, ⟨0, 0, []⟩, [], []⟩ : S35) (Nat.zero_le _) (empty_F k32 _ _ AL) (Nat.le_refl _) (Kd.F_nil _ _ _) (Nat.le_refl _) (Kd.F_nil _ _ _)) (Reps.c8 (show Kd.FK k35 _ _ (⟨3, 0, 0, ⟨5, 0, [⟨13, 3, []⟩, ⟨0, wrap64 (1 + t377), []⟩]⟩, t352 ++ [⟨1, 3, 0, ⟨8, 0, [⟨13, 3, []⟩, ⟨0, 1, []⟩]⟩, [], []⟩], []⟩ : S35) [.int .i64 3, .int .i64 0, .int .i64 0, .int .i64 5, .int .i64 0, .slice A30 2 c30, .slice A34 (t352 ++ [(⟨1, 3, 0, ⟨8, 0, [⟨13, 3, []⟩, ⟨0, 1, []⟩]⟩, [], []⟩ : S35)]).length c34, .slice none 0 0] from k35_mkF _ _ (⟨3, 0, 0, ⟨5, 0, [⟨13, 3, []⟩, ⟨0, wrap64 (1 + t377), []⟩]⟩, t352 ++ [⟨1, 3, 0, ⟨8, 0, [⟨13, 3, []⟩, ⟨0, 1, []⟩]⟩, [], []⟩], []⟩ : S35) (Kd.N_reads' HN30.out).2.1 (Kd.N_F HN30.out) (Kd.N_reads' HN34.out).2.1 (Kd.N_F HN34.out) (Nat.le_refl _) (Kd.F_nil _ _ _)) (Reps.none _ _))
  intro v1 W3 hn hb _ _
  have n1_ := am (KeepBut.trans HKW.out (KeepBut.of_below hb g none) (.inl rfl))
  have n4_ := am (blk_below h10'.out hb)
  have n5_ := am (HIW.out.below hb)
  have n6_ := am (below_step HBW.out hb)
  have n7_ := am (Kd.N_lower hn hkw)
  clear HKW HN30 HN34 h10' HIW HBW hb hn
  have h10' := n4_
  refine hK.out _ _ ⟨(blk_cell h10'.out 0).trans rfl, (blk_cell h10'.out 1).trans rfl, (blk_cell h10'.out 2).trans rfl, (blk_cell h10'.out 3).trans rfl, (blk_cell h10'.out 4).trans rfl, (blk_cell h10'.out 5).trans rfl, (blk_cell h10'.out 6).trans rfl, (blk_cell h10'.out 7).trans rfl⟩ (fun hHeld => ?_)
  clear hK K
  refine norm_ (a' := ?_) ?_ ?_
  rotate_left
  ·show Act.put _ (some 40) _ = _
   simp only [Act.put, List.setIfInBounds_toArray, List.set_cons_zero, List.set_cons_succ, i64_w, i32_w]
   rfl
  refine pure_ (i := 5) (N := some 6) (v := ?_) (a' := ?_) #[true, true, true, true, true, true] rfl rfl (by kernel_rfl) (fun _ _ _ h => h) (Or.inl ⟨by rfl, ?_⟩) ?_ ?_
  rotate_left
  ·intro w'
   go_simp
   with_reducible rfl
  rotate_left
  ·simp only [Act.put, List.setIfInBounds_toArray, List.set_cons_zero, List.set_cons_succ, i64_w, i32_w]
   rfl
  refine done_ (by kernel_rfl) ?_
  try go_wp2
  go_ret
  exact ⟨_, rfl, HR.out ▸ n7_.out, n5_.out, n6_.out, n1_.out⟩
theorem spec_l92Stmt.step (k : Nat) (ih_spec_l92Loop : ∀ m, m < k → spec_l92Loop.CallsAt m) (ih_spec_l92Stmt : ∀ m, m < k → spec_l92Stmt.CallsAt m) (ih_spec_l92Block : ∀ m, m < k → spec_l92Block.CallsAt m) (ih_spec_l92If : ∀ m, m < k → spec_l92If.CallsAt m) : spec_l92Stmt.CallsAt k := by
 intro g s0_0 s0_1 a1 a2 a3 r1 r2 w0 w hI hB h
 cases k with
 | zero => exact absurd h (by simp [spec_l92Stmt.f])
 | succ k =>
 simp only [spec_l92Stmt.f] at h
 have hu35 := Try.underlying35
 have HI0 := am hI
 have HK := am (KeepBut.refl w g none)
 have HL := am hB.size
 clear hI
 have HW0 := am hB.size
 have HB := am hB
 clear hB
 have H : ((spec_l6Rd_pick.f k s0_0 s0_1 10).bind fun bt271 => (if bt271.1 = 0 then (spec_l92Stmt.j0 k a1 a2 a3 bt271.1 (bt271.1 == 0) s0_0 bt271.2) else (spec_l92Stmt.j0 k a1 a2 a3 bt271.1 (bt271.1 == 1) s0_0 bt271.2))) = some (r1, r2) := h
 clear h
 obtain ⟨⟨t271, t272⟩, A50, H⟩ := bsm H
 (try dsimp only at H)
 have A5 := am A50
 clear A50
 have HC6 := am H
 clear H
 go_enter Try.func93, Try.ntmps93
 go_upto_if 11 with (first | ((with_reducible refine gate_callee (f := 41) rfl ?_); refine goesL_ (some 10) rfl rfl Try.func41 (by kernel_rfl) rfl #[.pointer (some ⟨g, 0, none⟩), .int .i64 10] rfl ab1_ ?_; (with_reducible refine (spec_l6Rd_pick.calls k g s0_0 s0_1 10 t271 t272 w0 _ ?side1 ?side2 A5.out).mono ?_); (case side1 => exact ab4_); (case side2 => exact ab5_); rintro e w7 ⟨rfl, hi, hb, hk⟩; refine ⟨_, rfl, ?_⟩; replace HK := am (KeepBut.trans ab3_ hk (.inl rfl)); replace HB := am (hb); replace HI0 := am (hi); (try clear hb); (try clear hb2); (try clear hk); (try clear hi)))
 (try simp only [Act.put, List.setIfInBounds_toArray, List.set_cons_zero, List.set_cons_succ])
 go_cut [11] (fun v11 wc => ∃ (kq : Nat) (x11_5 : Bool), v11 = .bool x11_5 ∧ Aside0 (spec_l92Stmt.j0 kq a1 a2 a3 t271 x11_5 s0_0 t272 = some (r1, r2)) ∧ Aside0 (kq ≤ k) ∧ Aside0 (IsS91 w0 wc g s0_0 t272) ∧ Aside0 (KeepBut w wc g none) ∧ Aside0 (Below w0.heap.size w0 wc))
 case first =>
  have H := HC6.out
  clear HC6
  by_cases c8 : t271 = 0
  ·rw [if_pos c8] at H
   have c8b0 : (t271 == 0) = true := beq_iff_eq.mpr c8
   have c8b1 : (t271 != 0) = false := bne_eq_false_iff_eq.mpr c8
   clear c8
   (first | rw [c8b0] | (simp only [i64_w, i32_w]; rw [c8b0]) | skip)
   have H' := am H
   clear H
   go_wp2
   go_meet
   case rel => exact ⟨_, ((t271 == 0)), sd_, H', ⟨by first | omega | exact Nat.le_refl _⟩, ⟨ab4_⟩, ⟨ab3_⟩, ⟨ab5_⟩⟩
  rw [if_neg c8] at H
  have c8b0 : (t271 == 0) = false := beq_eq_false_iff_ne.mpr c8
  have c8b1 : (t271 != 0) = true := bne_iff_ne.mpr c8
  (first | rw [c8b0] | (simp only [i64_w, i32_w]; rw [c8b0]) | skip)
  have H' := am H
  clear H
  go_wp2
  go_meet
  case rel => exact ⟨_, ((t271 == 1)), sd_, H', ⟨by first | omega | exact Nat.le_refl _⟩, ⟨ab4_⟩, ⟨ab3_⟩, ⟨ab5_⟩⟩
 case rest =>
  clear HC6
  obtain ⟨kq, x11_5, rfl, HA, HJ5, HI0, HK, HB⟩ := hcut
  cases kq with
  | zero => exact absurd HA.out (by simp [spec_l92Stmt.j0])
  | succ kj5 =>
   have H := HA.out
   clear HA
   simp only [spec_l92Stmt.j0] at H
   by_cases c9 : x11_5 = true
   ·subst c9
    rw [if_pos rfl] at H
    obtain ⟨⟨t273, t274, t275, t276, t277, t278, t281, t284, t287⟩, A100, H⟩ := bsm H
    (try dsimp only at H)
    have A10 := am A100
    clear A100
    obtain ⟨y288, hy288⟩ : ∃ y_ : List (S35), y_ = (([(⟨t273, t274, t275, (⟨t276, t277, t278⟩ : S32), t281, t284⟩ : S35)] : List (S35))) := ⟨_, rfl⟩
    replace H : (some (y288, t287)) = some (r1, r2) := by first | (rw [hy288]; with_reducible exact H) | (have H2_ := (Option.bind_some _ _).symm.trans H; rw [hy288]; with_reducible exact H2_) | (have H2_ := (Option.bind_some _ _).symm.trans H; with_reducible exact H2_) | with_reducible exact H | (rw [hy288]; exact H) | exact H
    have Ny288 := am hy288
    clear hy288
    simp only [Option.some.injEq, Prod.mk.injEq] at H
    obtain ⟨rfl, rfl⟩ := H
    go_wp2_with (first | ((with_reducible refine gate_callee (f := 103) rfl ?_); refine goesL_ (some 15) rfl rfl Try.func103 (by kernel_rfl) rfl #[.pointer (some ⟨g, 0, none⟩)] rfl ab1_ ?_; (with_reducible refine (spec_l92Set.calls kj5 g s0_0 t272 t273 t274 t275 t276 t277 t278 t281 t284 t287 w0 _ ?side1 ?side2 A10.out).mono ?_); (case side1 => exact ab4_); (case side2 => exact ab5_); rintro e w11 ⟨v279, v282, v285, rfl, ho0, ho1, ho2, hi, hb, hk⟩; refine ⟨_, rfl, ?_⟩; have HO280 := am (Kd.N_lower (Kd.N_mono (ok' := fun k_ => (w.heap.size ≤ k_) ∧ some k_ ≠ (v282 : Value).ownBlock ∧ some k_ ≠ (v285 : Value).ownBlock ∧ k_ ≠ g) ho0 (fun k_ hk_ => ⟨(Nat.le_trans (keep_size (w := w) (g := g) (row := none) ab3_) hk_.1), hk_.2.1, hk_.2.2, (IsS91.fresh ab4_ k_ hk_.1)⟩)) (keep_size (w := w) (g := g) (row := none) ab3_)); have HO283 := am (Kd.N_lower (Kd.N_mono (ok' := fun k_ => (w.heap.size ≤ k_) ∧ some k_ ≠ (v279 : Value).ownBlock ∧ some k_ ≠ (v285 : Value).ownBlock ∧ k_ ≠ g) ho1 (fun k_ hk_ => ⟨(Nat.le_trans (keep_size (w := w) (g := g) (row := none) ab3_) hk_.1), hk_.2.1, hk_.2.2, (IsS91.fresh ab4_ k_ hk_.1)⟩)) (keep_size (w := w) (g := g) (row := none) ab3_)); have HO286 := am (Kd.N_lower (Kd.N_mono (ok' := fun k_ => (w.heap.size ≤ k_) ∧ some k_ ≠ (v279 : Value).ownBlock ∧ some k_ ≠ (v282 : Value).ownBlock ∧ k_ ≠ g) ho2 (fun k_ hk_ => ⟨(Nat.le_trans (keep_size (w := w) (g := g) (row := none) ab3_) hk_.1), hk_.2.1, hk_.2.2, (IsS91.fresh ab4_ k_ hk_.1)⟩)) (keep_size (w := w) (g := g) (row := none) ab3_)); replace HK := am (KeepBut.trans ab3_ hk (.inl rfl)); replace HB := am (hb); replace HI0 := am (hi); (try clear hb); (try clear hb2); (try clear hk); (try clear hi); (try clear ho0); (try clear ho1); (try clear ho2); obtain ⟨Ao12, co12, eo12⟩ := Kd.N_slice HO280.out; subst eo12; obtain ⟨Ao13, co13, eo13⟩ := Kd.N_slice HO283.out; subst eo13; obtain ⟨Ao14, co14, eo14⟩ := Kd.N_slice HO286.out; subst eo14) | ((with_reducible refine gate_dst (N := 16) rfl ?_); refine Kd.N_lit k35 _ 35 rfl (N' := 16) rfl (xs := ([(⟨t273, t274, t275, (⟨t276, t277, t278⟩ : S32), t281, t284⟩ : S35)] : List (S35))) (inner := [.int .i64 t273, .int .i64 t274, .int .i64 t275, .int .i64 t276, .int .i64 t277, .slice Ao12 t278.length co12, .slice Ao13 t281.length co13, .slice Ao14 t284.length co14]) (ok := (fun k_ => (w.heap.size ≤ k_) ∧ k_ ≠ g)) (okp := (fun k_ => (w.heap.size ≤ k_) ∧ k_ ≠ g)) rn_ ?hp (fun _ hk => hk) ((show ∀ k_, w11.heap.size ≤ k_ → (fun k_ => (w.heap.size ≤ k_) ∧ k_ ≠ g) k_ from fun k_ hk => ⟨(Nat.le_trans (keep_size (w := w) (g := g) (row := none) ab3_) hk), IsS91.fresh ab4_ k_ hk⟩) _ (Nat.le_refl _)) (Below.refl _ _) (Nat.le_refl _) (by simp) ?_; (case hp => exact (Reps.c8 (show Kd.FK k35 _ _ (⟨t273, t274, t275, (⟨t276, t277, t278⟩ : S32), t281, t284⟩ : S35) [.int .i64 t273, .int .i64 t274, .int .i64 t275, .int .i64 t276, .int .i64 t277, .slice Ao12 t278.length co12, .slice Ao13 t281.length co13, .slice Ao14 t284.length co14] from (k35_mkF _ _ (⟨t273, t274, t275, (⟨t276, t277, t278⟩ : S32), t281, t284⟩ : S35) (Kd.N_reads' (Kd.N_mono (ok' := (fun k_ => (w.heap.size ≤ k_) ∧ k_ ≠ g)) (HO280.out) (fun k_ hk => ⟨hk.1, hk.2.2.2⟩))).2.1 (Kd.N_F (Kd.N_mono (ok' := (fun k_ => (w.heap.size ≤ k_) ∧ k_ ≠ g)) (HO280.out) (fun k_ hk => ⟨hk.1, hk.2.2.2⟩))) (Kd.N_reads' (Kd.N_mono (ok' := (fun k_ => (w.heap.size ≤ k_) ∧ k_ ≠ g)) (HO283.out) (fun k_ hk => ⟨hk.1, hk.2.2.2⟩))).2.1 (Kd.N_F (Kd.N_mono (ok' := (fun k_ => (w.heap.size ≤ k_) ∧ k_ ≠ g)) (HO283.out) (fun k_ hk => ⟨hk.1, hk.2.2.2⟩))) (Kd.N_reads' (Kd.N_mono (ok' := (fun k_ => (w.heap.size ≤ k_) ∧ k_ ≠ g)) (HO286.out) (fun k_ hk => ⟨hk.1, hk.2.2.2⟩))).2.1 (Kd.N_F (Kd.N_mono (ok' := (fun k_ => (w.heap.size ≤ k_) ∧ k_ ≠ g)) (HO286.out) (fun k_ hk => ⟨hk.1, hk.2.2.2⟩))))) (Reps.none _ _))); intro v289 w15 ho16 hb hg_ hnew_; clear hg_ hnew_; (first | rw [← Ny288.out] at ho16 | (simp only [Int.reduceToNat] at ho16; rw [← Ny288.out] at ho16)); have HO290 := am (Kd.N_lower ho16 (keep_size (w := w) (g := g) (row := none) ab3_)); replace HK := am (KeepBut.trans ab3_ (KeepBut.of_below hb g none) (.inl rfl)); replace HB := am (below_step ab5_ hb); replace HI0 := am (IsS91.below ab4_ hb); clear HO280 HO283 HO286 hb ho16))
    go_ret
    exact ⟨_, ab11_, by (with_reducible repeat (first | apply Kd.N_alloc | apply Kd.N_drewN | apply Kd.N_drew)); exact Kd.N_mono HO290.out (fun _ hk => hk.1), ab4_, ab5_, ab3_⟩
   replace c9 := Bool.eq_false_iff.mpr c9
   subst c9
   rw [if_neg (show ¬ (false = true) by decide)] at H
   by_cases c17 : t271 = 2
   ·rw [if_pos c17] at H
    have c17b0 : (t271 == 2) = true := beq_iff_eq.mpr c17
    have c17b1 : (t271 != 2) = false := bne_eq_false_iff_eq.mpr c17
    clear c17
    by_cases c18 : a2 > 0
    ·rw [if_pos c18] at H
     have c18b0 : decide (0 < a2) = true := decide_eq_true c18
     clear c18
     obtain ⟨⟨t291, t292, t293, t294, t295, t296, t299, t302, t305⟩, A190, H⟩ := bsm H
     (try dsimp only at H)
     have A19 := am A190
     clear A190
     obtain ⟨y306, hy306⟩ : ∃ y_ : List (S35), y_ = (([(⟨t291, t292, t293, (⟨t294, t295, t296⟩ : S32), t299, t302⟩ : S35)] : List (S35))) := ⟨_, rfl⟩
     replace H : (some (y306, t305)) = some (r1, r2) := by first | (rw [hy306]; with_reducible exact H) | (have H2_ := (Option.bind_some _ _).symm.trans H; rw [hy306]; with_reducible exact H2_) | (have H2_ := (Option.bind_some _ _).symm.trans H; with_reducible exact H2_) | with_reducible exact H | (rw [hy306]; exact H) | exact H
     have Ny306 := am hy306
     clear hy306
     simp only [Option.some.injEq, Prod.mk.injEq] at H
     obtain ⟨rfl, rfl⟩ := H
     go_wp2_with (first | ((with_reducible refine gate_callee (f := 42) rfl ?_); refine goesL_ (some 25) rfl rfl Try.func42 (by kernel_rfl) rfl #[.pointer (some ⟨g, 0, none⟩), .int .i64 a1, .int .i64 a2, .bool a3] rfl ab1_ ?_; (with_reducible refine (ih_spec_l92If kj5 (by have := HJ5.out; omega) g s0_0 t272 a1 a2 a3 t291 t292 t293 t294 t295 t296 t299 t302 t305 w0 _ ?side1 ?side2 A19.out).mono ?_); (case side1 => exact ab4_); (case side2 => exact ab5_); rintro e w20 ⟨v297, v300, v303, rfl, ho0, ho1, ho2, hi, hb, hk⟩; refine ⟨_, rfl, ?_⟩; have HO298 := am (Kd.N_lower (Kd.N_mono (ok' := fun k_ => (w.heap.size ≤ k_) ∧ some k_ ≠ (v300 : Value).ownBlock ∧ some k_ ≠ (v303 : Value).ownBlock ∧ k_ ≠ g) ho0 (fun k_ hk_ => ⟨(Nat.le_trans (keep_size (w := w) (g := g) (row := none) ab3_) hk_.1), hk_.2.1, hk_.2.2, (IsS91.fresh ab4_ k_ hk_.1)⟩)) (keep_size (w := w) (g := g) (row := none) ab3_)); have HO301 := am (Kd.N_lower (Kd.N_mono (ok' := fun k_ => (w.heap.size ≤ k_) ∧ some k_ ≠ (v297 : Value).ownBlock ∧ some k_ ≠ (v303 : Value).ownBlock ∧ k_ ≠ g) ho1 (fun k_ hk_ => ⟨(Nat.le_trans (keep_size (w := w) (g := g) (row := none) ab3_) hk_.1), hk_.2.1, hk_.2.2, (IsS91.fresh ab4_ k_ hk_.1)⟩)) (keep_size (w := w) (g := g) (row := none) ab3_)); have HO304 := am (Kd.N_lower (Kd.N_mono (ok' := fun k_ => (w.heap.size ≤ k_) ∧ some k_ ≠ (v297 : Value).ownBlock ∧ some k_ ≠ (v300 : Value).ownBlock ∧ k_ ≠ g) ho2 (fun k_ hk_ => ⟨(Nat.le_trans (keep_size (w := w) (g := g) (row := none) ab3_) hk_.1), hk_.2.1, hk_.2.2, (IsS91.fresh ab4_ k_ hk_.1)⟩)) (keep_size (w := w) (g := g) (row := none) ab3_)); replace HK := am (KeepBut.trans ab3_ hk (.inl rfl)); replace HB := am (hb); replace HI0 := am (hi); (try clear hb); (try clear hb2); (try clear hk); (try clear hi); (try clear ho0); (try clear ho1); (try clear ho2); obtain ⟨Ao21, co21, eo21⟩ := Kd.N_slice HO298.out; subst eo21; obtain ⟨Ao22, co22, eo22⟩ := Kd.N_slice HO301.out; subst eo22; obtain ⟨Ao23, co23, eo23⟩ := Kd.N_slice HO304.out; subst eo23) | ((with_reducible refine gate_dst (N := 26) rfl ?_); refine Kd.N_lit k35 _ 35 rfl (N' := 26) rfl (xs := ([(⟨t291, t292, t293, (⟨t294, t295, t296⟩ : S32), t299, t302⟩ : S35)] : List (S35))) (inner := [.int .i64 t291, .int .i64 t292, .int .i64 t293, .int .i64 t294, .int .i64 t295, .slice Ao21 t296.length co21, .slice Ao22 t299.length co22, .slice Ao23 t302.length co23]) (ok := (fun k_ => (w.heap.size ≤ k_) ∧ k_ ≠ g)) (okp := (fun k_ => (w.heap.size ≤ k_) ∧ k_ ≠ g)) rn_ ?hp (fun _ hk => hk) ((show ∀ k_, w20.heap.size ≤ k_ → (fun k_ => (w.heap.size ≤ k_) ∧ k_ ≠ g) k_ from fun k_ hk => ⟨(Nat.le_trans (keep_size (w := w) (g := g) (row := none) ab3_) hk), IsS91.fresh ab4_ k_ hk⟩) _ (Nat.le_refl _)) (Below.refl _ _) (Nat.le_refl _) (by simp) ?_; (case hp => exact (Reps.c8 (show Kd.FK k35 _ _ (⟨t291, t292, t293, (⟨t294, t295, t296⟩ : S32), t299, t302⟩ : S35) [.int .i64 t291, .int .i64 t292, .int .i64 t293, .int .i64 t294, .int .i64 t295, .slice Ao21 t296.length co21, .slice Ao22 t299.length co22, .slice Ao23 t302.length co23] from (k35_mkF _ _ (⟨t291, t292, t293, (⟨t294, t295, t296⟩ : S32), t299, t302⟩ : S35) (Kd.N_reads' (Kd.N_mono (ok' := (fun k_ => (w.heap.size ≤ k_) ∧ k_ ≠ g)) (HO298.out) (fun k_ hk => ⟨hk.1, hk.2.2.2⟩))).2.1 (Kd.N_F (Kd.N_mono (ok' := (fun k_ => (w.heap.size ≤ k_) ∧ k_ ≠ g)) (HO298.out) (fun k_ hk => ⟨hk.1, hk.2.2.2⟩))) (Kd.N_reads' (Kd.N_mono (ok' := (fun k_ => (w.heap.size ≤ k_) ∧ k_ ≠ g)) (HO301.out) (fun k_ hk => ⟨hk.1, hk.2.2.2⟩))).2.1 (Kd.N_F (Kd.N_mono (ok' := (fun k_ => (w.heap.size ≤ k_) ∧ k_ ≠ g)) (HO301.out) (fun k_ hk => ⟨hk.1, hk.2.2.2⟩))) (Kd.N_reads' (Kd.N_mono (ok' := (fun k_ => (w.heap.size ≤ k_) ∧ k_ ≠ g)) (HO304.out) (fun k_ hk => ⟨hk.1, hk.2.2.2⟩))).2.1 (Kd.N_F (Kd.N_mono (ok' := (fun k_ => (w.heap.size ≤ k_) ∧ k_ ≠ g)) (HO304.out) (fun k_ hk => ⟨hk.1, hk.2.2.2⟩))))) (Reps.none _ _))); intro v307 w24 ho25 hb hg_ hnew_; clear hg_ hnew_; (first | rw [← Ny306.out] at ho25 | (simp only [Int.reduceToNat] at ho25; rw [← Ny306.out] at ho25)); have HO308 := am (Kd.N_lower ho25 (keep_size (w := w) (g := g) (row := none) ab3_)); replace HK := am (KeepBut.trans ab3_ (KeepBut.of_below hb g none) (.inl rfl)); replace HB := am (below_step ab5_ hb); replace HI0 := am (IsS91.below ab4_ hb); clear HO298 HO301 HO304 hb ho25))
     go_ret
     exact ⟨_, ab11_, by (with_reducible repeat (first | apply Kd.N_alloc | apply Kd.N_drewN | apply Kd.N_drew)); exact Kd.N_mono HO308.out (fun _ hk => hk.1), ab4_, ab5_, ab3_⟩
    rw [if_neg c18] at H
    have c18b0 : decide (0 < a2) = false := decide_eq_false c18
    clear c18
    obtain ⟨⟨t309, t310⟩, A260, H⟩ := bsm H
    (try dsimp only at H)
    have A26 := am A260
    clear A260
    obtain ⟨⟨t311, t312, t313, t316⟩, A270, H⟩ := bsm H
    (try dsimp only at H)
    have A27 := am A270
    clear A270
    obtain ⟨y317, hy317⟩ : ∃ y_ : List (S35), y_ = (([(⟨7, 0, 0, (⟨t311, t312, t313⟩ : S32), ([] : List (S35)), ([] : List (S35))⟩ : S35)] : List (S35))) := ⟨_, rfl⟩
    replace H : (some (y317, t316)) = some (r1, r2) := by first | (rw [hy317]; with_reducible exact H) | (have H2_ := (Option.bind_some _ _).symm.trans H; rw [hy317]; with_reducible exact H2_) | (have H2_ := (Option.bind_some _ _).symm.trans H; with_reducible exact H2_) | with_reducible exact H | (rw [hy317]; exact H) | exact H
    have Ny317 := am hy317
    clear hy317
    simp only [Option.some.injEq, Prod.mk.injEq] at H
    obtain ⟨rfl, rfl⟩ := H
    go_wp2_with (first | ((with_reducible refine gate_callee (f := 41) rfl ?_); refine goesL_ (some 52) rfl rfl Try.func41 (by kernel_rfl) rfl #[.pointer (some ⟨g, 0, none⟩), .int .i64 3] rfl ab1_ ?_; (with_reducible refine (spec_l6Rd_pick.calls kj5 g s0_0 t272 3 t309 t310 w0 _ ?side1 ?side2 A26.out).mono ?_); (case side1 => exact ab4_); (case side2 => exact ab5_); rintro e w28 ⟨rfl, hi, hb, hk⟩; refine ⟨_, rfl, ?_⟩; replace HK := am (KeepBut.trans ab3_ hk (.inl rfl)); replace HB := am (hb); replace HI0 := am (hi); (try clear hb); (try clear hb2); (try clear hk); (try clear hi)) | ((with_reducible refine gate_callee (f := 76) rfl ?_); refine goesL_ (some 54) rfl rfl Try.func76 (by kernel_rfl) rfl #[.pointer (some ⟨g, 0, none⟩), .int .i64 (wrap64 (1 + t309))] rfl ab1_ ?_; (with_reducible refine (spec_l91Expr.calls kj5 g s0_0 t310 (wrap64 (1 + t309)) t311 t312 t313 t316 w0 _ ?side1 ?side2 A27.out).mono ?_); (case side1 => exact ab4_); (case side2 => exact ab5_); rintro e w29 ⟨v314, rfl, ho0, hi, hb, hk⟩; refine ⟨_, rfl, ?_⟩; have HO315 := am (Kd.N_lower (Kd.N_mono (ok' := fun k_ => (w.heap.size ≤ k_) ∧ k_ ≠ g) ho0 (fun k_ hk_ => ⟨(Nat.le_trans (keep_size (w := w) (g := g) (row := none) ab3_) hk_), (IsS91.fresh ab4_ k_ hk_)⟩)) (keep_size (w := w) (g := g) (row := none) ab3_)); replace HK := am (KeepBut.trans ab3_ hk (.inl rfl)); replace HB := am (hb); replace HI0 := am (hi); (try clear hb); (try clear hb2); (try clear hk); (try clear hi); (try clear ho0); obtain ⟨Ao30, co30, eo30⟩ := Kd.N_slice HO315.out; subst eo30) | ((with_reducible refine gate_dst (N := 56) rfl ?_); refine Kd.N_lit k35 _ 35 rfl (N' := 56) rfl (xs := ([(⟨7, 0, 0, (⟨t311, t312, t313⟩ : S32), ([] : List (S35)), ([] : List (S35))⟩ : S35)] : List (S35))) (inner := [.int .i64 7, .int .i64 0, .int .i64 0, .int .i64 t311, .int .i64 t312, .slice Ao30 t313.length co30, .slice none 0 0, .slice none 0 0]) (ok := (fun k_ => (w.heap.size ≤ k_) ∧ k_ ≠ g)) (okp := (fun k_ => (w.heap.size ≤ k_) ∧ k_ ≠ g)) rn_ ?hp (fun _ hk => hk) ((show ∀ k_, w29.heap.size ≤ k_ → (fun k_ => (w.heap.size ≤ k_) ∧ k_ ≠ g) k_ from fun k_ hk => ⟨(Nat.le_trans (keep_size (w := w) (g := g) (row := none) ab3_) hk), IsS91.fresh ab4_ k_ hk⟩) _ (Nat.le_refl _)) (Below.refl _ _) (Nat.le_refl _) (by simp) ?_; (case hp => exact (Reps.c8 (show Kd.FK k35 _ _ (⟨7, 0, 0, (⟨t311, t312, t313⟩ : S32), ([] : List (S35)), ([] : List (S35))⟩ : S35) [.int .i64 7, .int .i64 0, .int .i64 0, .int .i64 t311, .int .i64 t312, .slice Ao30 t313.length co30, .slice none 0 0, .slice none 0 0] from (k35_mkF _ _ (⟨7, 0, 0, (⟨t311, t312, t313⟩ : S32), ([] : List (S35)), ([] : List (S35))⟩ : S35) (Kd.N_reads' (Kd.N_mono (ok' := (fun k_ => (w.heap.size ≤ k_) ∧ k_ ≠ g)) (HO315.out) (fun k_ hk => ⟨hk.1, hk.2⟩))).2.1 (Kd.N_F (Kd.N_mono (ok' := (fun k_ => (w.heap.size ≤ k_) ∧ k_ ≠ g)) (HO315.out) (fun k_ hk => ⟨hk.1, hk.2⟩))) (Nat.le_refl _) (Kd.F_nil _ _ _) (Nat.le_refl _) (Kd.F_nil _ _ _))) (Reps.none _ _))); intro v318 w31 ho32 hb hg_ hnew_; clear hg_ hnew_; (first | rw [← Ny317.out] at ho32 | (simp only [Int.reduceToNat] at ho32; rw [← Ny317.out] at ho32)); have HO319 := am (Kd.N_lower ho32 (keep_size (w := w) (g := g) (row := none) ab3_)); replace HK := am (KeepBut.trans ab3_ (KeepBut.of_below hb g none) (.inl rfl)); replace HB := am (below_step ab5_ hb); replace HI0 := am (IsS91.below ab4_ hb); clear HO315 hb ho32))
    go_ret
    exact ⟨_, ab11_, by (with_reducible repeat (first | apply Kd.N_alloc | apply Kd.N_drewN | apply Kd.N_drew)); exact Kd.N_mono HO319.out (fun _ hk => hk.1), ab4_, ab5_, ab3_⟩
   rw [if_neg c17] at H
   have c17b0 : (t271 == 2) = false := beq_eq_false_iff_ne.mpr c17
   have c17b1 : (t271 != 2) = true := bne_iff_ne.mpr c17
   by_cases c33 : t271 = 3
   ·rw [if_pos c33] at H
    have c33b0 : (t271 == 3) = true := beq_iff_eq.mpr c33
    have c33b1 : (t271 != 3) = false := bne_eq_false_iff_eq.mpr c33
    clear c33
    have HC34 := am H
    clear H
    go_upto_region 9 with (fail)
    go_cut [33] (fun v33 wc => ∃ (kq : Nat) (x33_33 : Bool), v33 = .bool x33_33 ∧ Aside0 (spec_l92Stmt.j1 kq a1 a2 x33_33 s0_0 t272 = some (r1, r2)) ∧ Aside0 (kq ≤ kj5) ∧ Aside0 (IsS91 w0 wc g s0_0 t272) ∧ Aside0 (KeepBut w wc g none) ∧ Aside0 (Below w0.heap.size w0 wc))
    case first =>
     have H := HC34.out
     clear HC34
     by_cases c35 : a2 > 0
     ·rw [if_pos c35] at H
      have c35b0 : decide (0 < a2) = true := decide_eq_true c35
      clear c35
      (first | rw [c35b0] | (simp only [i64_w, i32_w]; rw [c35b0]) | skip)
      have H' := am H
      clear H
      go_wp2
      go_meet
      case rel => exact ⟨_, (a3), sd_, H', ⟨by have := HJ5.out; first | omega | exact Nat.le_refl _⟩, ⟨ab4_⟩, ⟨ab3_⟩, ⟨ab5_⟩⟩
     rw [if_neg c35] at H
     have c35b0 : decide (0 < a2) = false := decide_eq_false c35
     clear c35
     (first | rw [c35b0] | (simp only [i64_w, i32_w]; rw [c35b0]) | skip)
     have H' := am H
     clear H
     go_wp2
     go_meet
     case rel => exact ⟨_, (false), sd_, H', ⟨by have := HJ5.out; first | omega | exact Nat.le_refl _⟩, ⟨ab4_⟩, ⟨ab3_⟩, ⟨ab5_⟩⟩
    case rest =>
     clear HC34
     try clear c9
     try clear c17
     try clear c17b0
     try clear c17b1
     try clear c33
     try clear c33b0
     try clear c33b1
     obtain ⟨kq, x33_33, rfl, HA, HJ33, HI0, HK, HB⟩ := hcut
     cases kq with
     | zero => exact absurd HA.out (by simp [spec_l92Stmt.j1])
     | succ kj33 =>
      have H := HA.out
      clear HA
      simp only [spec_l92Stmt.j1] at H
      by_cases c36 : x33_33 = true
      ·subst c36
       rw [if_pos rfl] at H
       obtain ⟨⟨t320, t323⟩, A370, H⟩ := bsm H
       (try dsimp only at H)
       have A37 := am A370
       clear A370
       simp only [Option.some.injEq, Prod.mk.injEq] at H
       obtain ⟨rfl, rfl⟩ := H
       go_wp2_with (first | ((with_reducible refine gate_callee (f := 104) rfl ?_); refine goesL_ (some 37) rfl rfl Try.func104 (by kernel_rfl) rfl #[.pointer (some ⟨g, 0, none⟩), .int .i64 a1, .int .i64 a2] rfl ab1_ ?_; (with_reducible refine (ih_spec_l92Loop kj33 (by have := HJ5.out; have := HJ33.out; omega) g s0_0 t272 a1 a2 t320 t323 w0 _ ?side1 ?side2 A37.out).mono ?_); (case side1 => exact ab4_); (case side2 => exact ab5_); rintro e w38 ⟨v321, rfl, ho0, hi, hb, hk⟩; refine ⟨_, rfl, ?_⟩; have HO322 := am (Kd.N_lower (Kd.N_mono (ok' := fun k_ => (w.heap.size ≤ k_) ∧ k_ ≠ g) ho0 (fun k_ hk_ => ⟨(Nat.le_trans (keep_size (w := w) (g := g) (row := none) ab3_) hk_), (IsS91.fresh ab4_ k_ hk_)⟩)) (keep_size (w := w) (g := g) (row := none) ab3_)); replace HK := am (KeepBut.trans ab3_ hk (.inl rfl)); replace HB := am (hb); replace HI0 := am (hi); (try clear hb); (try clear hb2); (try clear hk); (try clear hi); (try clear ho0)))
       go_ret
       exact ⟨_, ab11_, by (with_reducible repeat (first | apply Kd.N_alloc | apply Kd.N_drewN | apply Kd.N_drew)); exact Kd.N_mono HO322.out (fun _ hk => hk.1), ab4_, ab5_, ab3_⟩
      replace c36 := Bool.eq_false_iff.mpr c36
      subst c36
      rw [if_neg (show ¬ (false = true) by decide)] at H
      obtain ⟨⟨t324, t325⟩, A390, H⟩ := bsm H
      (try dsimp only at H)
      have A39 := am A390
      clear A390
      obtain ⟨⟨t326, t327, t328, t331⟩, A400, H⟩ := bsm H
      (try dsimp only at H)
      have A40 := am A400
      clear A400
      obtain ⟨y332, hy332⟩ : ∃ y_ : List (S35), y_ = (([(⟨7, 0, 0, (⟨t326, t327, t328⟩ : S32), ([] : List (S35)), ([] : List (S35))⟩ : S35)] : List (S35))) := ⟨_, rfl⟩
      replace H : (some (y332, t331)) = some (r1, r2) := by first | (rw [hy332]; with_reducible exact H) | (have H2_ := (Option.bind_some _ _).symm.trans H; rw [hy332]; with_reducible exact H2_) | (have H2_ := (Option.bind_some _ _).symm.trans H; with_reducible exact H2_) | with_reducible exact H | (rw [hy332]; exact H) | exact H
      have Ny332 := am hy332
      clear hy332
      simp only [Option.some.injEq, Prod.mk.injEq] at H
      obtain ⟨rfl, rfl⟩ := H
      go_wp2_with (first | ((with_reducible refine gate_callee (f := 41) rfl ?_); refine goesL_ (some 52) rfl rfl Try.func41 (by kernel_rfl) rfl #[.pointer (some ⟨g, 0, none⟩), .int .i64 3] rfl ab1_ ?_; (with_reducible refine (spec_l6Rd_pick.calls kj33 g s0_0 t272 3 t324 t325 w0 _ ?side1 ?side2 A39.out).mono ?_); (case side1 => exact ab4_); (case side2 => exact ab5_); rintro e w41 ⟨rfl, hi, hb, hk⟩; refine ⟨_, rfl, ?_⟩; replace HK := am (KeepBut.trans ab3_ hk (.inl rfl)); replace HB := am (hb); replace HI0 := am (hi); (try clear hb); (try clear hb2); (try clear hk); (try clear hi)) | ((with_reducible refine gate_callee (f := 76) rfl ?_); refine goesL_ (some 54) rfl rfl Try.func76 (by kernel_rfl) rfl #[.pointer (some ⟨g, 0, none⟩), .int .i64 (wrap64 (1 + t324))] rfl ab1_ ?_; (with_reducible refine (spec_l91Expr.calls kj33 g s0_0 t325 (wrap64 (1 + t324)) t326 t327 t328 t331 w0 _ ?side1 ?side2 A40.out).mono ?_); (case side1 => exact ab4_); (case side2 => exact ab5_); rintro e w42 ⟨v329, rfl, ho0, hi, hb, hk⟩; refine ⟨_, rfl, ?_⟩; have HO330 := am (Kd.N_lower (Kd.N_mono (ok' := fun k_ => (w.heap.size ≤ k_) ∧ k_ ≠ g) ho0 (fun k_ hk_ => ⟨(Nat.le_trans (keep_size (w := w) (g := g) (row := none) ab3_) hk_), (IsS91.fresh ab4_ k_ hk_)⟩)) (keep_size (w := w) (g := g) (row := none) ab3_)); replace HK := am (KeepBut.trans ab3_ hk (.inl rfl)); replace HB := am (hb); replace HI0 := am (hi); (try clear hb); (try clear hb2); (try clear hk); (try clear hi); (try clear ho0); obtain ⟨Ao43, co43, eo43⟩ := Kd.N_slice HO330.out; subst eo43) | ((with_reducible refine gate_dst (N := 56) rfl ?_); refine Kd.N_lit k35 _ 35 rfl (N' := 56) rfl (xs := ([(⟨7, 0, 0, (⟨t326, t327, t328⟩ : S32), ([] : List (S35)), ([] : List (S35))⟩ : S35)] : List (S35))) (inner := [.int .i64 7, .int .i64 0, .int .i64 0, .int .i64 t326, .int .i64 t327, .slice Ao43 t328.length co43, .slice none 0 0, .slice none 0 0]) (ok := (fun k_ => (w.heap.size ≤ k_) ∧ k_ ≠ g)) (okp := (fun k_ => (w.heap.size ≤ k_) ∧ k_ ≠ g)) rn_ ?hp (fun _ hk => hk) ((show ∀ k_, w42.heap.size ≤ k_ → (fun k_ => (w.heap.size ≤ k_) ∧ k_ ≠ g) k_ from fun k_ hk => ⟨(Nat.le_trans (keep_size (w := w) (g := g) (row := none) ab3_) hk), IsS91.fresh ab4_ k_ hk⟩) _ (Nat.le_refl _)) (Below.refl _ _) (Nat.le_refl _) (by simp) ?_; (case hp => exact (Reps.c8 (show Kd.FK k35 _ _ (⟨7, 0, 0, (⟨t326, t327, t328⟩ : S32), ([] : List (S35)), ([] : List (S35))⟩ : S35) [.int .i64 7, .int .i64 0, .int .i64 0, .int .i64 t326, .int .i64 t327, .slice Ao43 t328.length co43, .slice none 0 0, .slice none 0 0] from (k35_mkF _ _ (⟨7, 0, 0, (⟨t326, t327, t328⟩ : S32), ([] : List (S35)), ([] : List (S35))⟩ : S35) (Kd.N_reads' (Kd.N_mono (ok' := (fun k_ => (w.heap.size ≤ k_) ∧ k_ ≠ g)) (HO330.out) (fun k_ hk => ⟨hk.1, hk.2⟩))).2.1 (Kd.N_F (Kd.N_mono (ok' := (fun k_ => (w.heap.size ≤ k_) ∧ k_ ≠ g)) (HO330.out) (fun k_ hk => ⟨hk.1, hk.2⟩))) (Nat.le_refl _) (Kd.F_nil _ _ _) (Nat.le_refl _) (Kd.F_nil _ _ _))) (Reps.none _ _))); intro v333 w44 ho45 hb hg_ hnew_; clear hg_ hnew_; (first | rw [← Ny332.out] at ho45 | (simp only [Int.reduceToNat] at ho45; rw [← Ny332.out] at ho45)); have HO334 := am (Kd.N_lower ho45 (keep_size (w := w) (g := g) (row := none) ab3_)); replace HK := am (KeepBut.trans ab3_ (KeepBut.of_below hb g none) (.inl rfl)); replace HB := am (below_step ab5_ hb); replace HI0 := am (IsS91.below ab4_ hb); clear HO330 hb ho45))
      go_ret
      exact ⟨_, ab11_, by (with_reducible repeat (first | apply Kd.N_alloc | apply Kd.N_drewN | apply Kd.N_drew)); exact Kd.N_mono HO334.out (fun _ hk => hk.1), ab4_, ab5_, ab3_⟩
   rw [if_neg c33] at H
   have c33b0 : (t271 == 3) = false := beq_eq_false_iff_ne.mpr c33
   have c33b1 : (t271 != 3) = true := bne_iff_ne.mpr c33
   have HC46 := am H
   clear H
   go_upto_if 38 with (fail)
   go_cut [38] (fun v38 wc => ∃ (kq : Nat) (x38_45 : Bool), v38 = .bool x38_45 ∧ Aside0 (spec_l92Stmt.j2 kq a1 t271 x38_45 s0_0 t272 = some (r1, r2)) ∧ Aside0 (kq ≤ kj5) ∧ Aside0 (IsS91 w0 wc g s0_0 t272) ∧ Aside0 (KeepBut w wc g none) ∧ Aside0 (Below w0.heap.size w0 wc))
   case first =>
    have H := HC46.out
    clear HC46
    by_cases c47 : t271 = 4
    ·rw [if_pos c47] at H
     have c47b0 : (t271 == 4) = true := beq_iff_eq.mpr c47
     have c47b1 : (t271 != 4) = false := bne_eq_false_iff_eq.mpr c47
     clear c47
     (first | rw [c47b0] | (simp only [i64_w, i32_w]; rw [c47b0]) | skip)
     have H' := am H
     clear H
     go_wp2
     go_meet
     case rel => exact ⟨_, ((t271 == 4)), sd_, H', ⟨by have := HJ5.out; first | omega | exact Nat.le_refl _⟩, ⟨ab4_⟩, ⟨ab3_⟩, ⟨ab5_⟩⟩
    rw [if_neg c47] at H
    have c47b0 : (t271 == 4) = false := beq_eq_false_iff_ne.mpr c47
    have c47b1 : (t271 != 4) = true := bne_iff_ne.mpr c47
    (first | rw [c47b0] | (simp only [i64_w, i32_w]; rw [c47b0]) | skip)
    by_cases c48 : t271 = 5
    ·rw [if_pos c48] at H
     have c48b0 : (t271 == 5) = true := beq_iff_eq.mpr c48
     have c48b1 : (t271 != 5) = false := bne_eq_false_iff_eq.mpr c48
     clear c48
     have H' := am H
     clear H
     go_wp2
     go_meet
     case rel => exact ⟨_, ((t271 == 5)), sd_, H', ⟨by have := HJ5.out; first | omega | exact Nat.le_refl _⟩, ⟨ab4_⟩, ⟨ab3_⟩, ⟨ab5_⟩⟩
    rw [if_neg c48] at H
    have c48b0 : (t271 == 5) = false := beq_eq_false_iff_ne.mpr c48
    have c48b1 : (t271 != 5) = true := bne_iff_ne.mpr c48
    have H' := am H
    clear H
    go_wp2
    go_meet
    case rel => exact ⟨_, ((t271 == 6)), sd_, H', ⟨by have := HJ5.out; first | omega | exact Nat.le_refl _⟩, ⟨ab4_⟩, ⟨ab3_⟩, ⟨ab5_⟩⟩
   case rest =>
    clear HC46
    try clear c9
    try clear c17
    try clear c17b0
    try clear c17b1
    try clear c33
    try clear c33b0
    try clear c33b1
    obtain ⟨kq, x38_45, rfl, HA, HJ45, HI0, HK, HB⟩ := hcut
    cases kq with
    | zero => exact absurd HA.out (by simp [spec_l92Stmt.j2])
    | succ kj45 =>
     have H := HA.out
     clear HA
     simp only [spec_l92Stmt.j2] at H
     by_cases c49 : x38_45 = true
     ·subst c49
      rw [if_pos rfl] at H
      obtain ⟨⟨t335, t336, t337, t338, t339, t340, t343, t346, t349⟩, A500, H⟩ := bsm H
      (try dsimp only at H)
      have A50 := am A500
      clear A500
      obtain ⟨y350, hy350⟩ : ∃ y_ : List (S35), y_ = (([(⟨t335, t336, t337, (⟨t338, t339, t340⟩ : S32), t343, t346⟩ : S35)] : List (S35))) := ⟨_, rfl⟩
      replace H : (some (y350, t349)) = some (r1, r2) := by first | (rw [hy350]; with_reducible exact H) | (have H2_ := (Option.bind_some _ _).symm.trans H; rw [hy350]; with_reducible exact H2_) | (have H2_ := (Option.bind_some _ _).symm.trans H; with_reducible exact H2_) | with_reducible exact H | (rw [hy350]; exact H) | exact H
      have Ny350 := am hy350
      clear hy350
      simp only [Option.some.injEq, Prod.mk.injEq] at H
      obtain ⟨rfl, rfl⟩ := H
      go_wp2_with (first | ((with_reducible refine gate_callee (f := 105) rfl ?_); refine goesL_ (some 44) rfl rfl Try.func105 (by kernel_rfl) rfl #[.pointer (some ⟨g, 0, none⟩), .int .i64 a1] rfl ab1_ ?_; (with_reducible refine (spec_l92Talk.calls kj45 g s0_0 t272 a1 t335 t336 t337 t338 t339 t340 t343 t346 t349 w0 _ ?side1 ?side2 A50.out).mono ?_); (case side1 => exact ab4_); (case side2 => exact ab5_); rintro e w51 ⟨v341, v344, v347, rfl, ho0, ho1, ho2, hi, hb, hk⟩; refine ⟨_, rfl, ?_⟩; have HO342 := am (Kd.N_lower (Kd.N_mono (ok' := fun k_ => (w.heap.size ≤ k_) ∧ some k_ ≠ (v344 : Value).ownBlock ∧ some k_ ≠ (v347 : Value).ownBlock ∧ k_ ≠ g) ho0 (fun k_ hk_ => ⟨(Nat.le_trans (keep_size (w := w) (g := g) (row := none) ab3_) hk_.1), hk_.2.1, hk_.2.2, (IsS91.fresh ab4_ k_ hk_.1)⟩)) (keep_size (w := w) (g := g) (row := none) ab3_)); have HO345 := am (Kd.N_lower (Kd.N_mono (ok' := fun k_ => (w.heap.size ≤ k_) ∧ some k_ ≠ (v341 : Value).ownBlock ∧ some k_ ≠ (v347 : Value).ownBlock ∧ k_ ≠ g) ho1 (fun k_ hk_ => ⟨(Nat.le_trans (keep_size (w := w) (g := g) (row := none) ab3_) hk_.1), hk_.2.1, hk_.2.2, (IsS91.fresh ab4_ k_ hk_.1)⟩)) (keep_size (w := w) (g := g) (row := none) ab3_)); have HO348 := am (Kd.N_lower (Kd.N_mono (ok' := fun k_ => (w.heap.size ≤ k_) ∧ some k_ ≠ (v341 : Value).ownBlock ∧ some k_ ≠ (v344 : Value).ownBlock ∧ k_ ≠ g) ho2 (fun k_ hk_ => ⟨(Nat.le_trans (keep_size (w := w) (g := g) (row := none) ab3_) hk_.1), hk_.2.1, hk_.2.2, (IsS91.fresh ab4_ k_ hk_.1)⟩)) (keep_size (w := w) (g := g) (row := none) ab3_)); replace HK := am (KeepBut.trans ab3_ hk (.inl rfl)); replace HB := am (hb); replace HI0 := am (hi); (try clear hb); (try clear hb2); (try clear hk); (try clear hi); (try clear ho0); (try clear ho1); (try clear ho2); obtain ⟨Ao52, co52, eo52⟩ := Kd.N_slice HO342.out; subst eo52; obtain ⟨Ao53, co53, eo53⟩ := Kd.N_slice HO345.out; subst eo53; obtain ⟨Ao54, co54, eo54⟩ := Kd.N_slice HO348.out; subst eo54) | ((with_reducible refine gate_dst (N := 45) rfl ?_); refine Kd.N_lit k35 _ 35 rfl (N' := 45) rfl (xs := ([(⟨t335, t336, t337, (⟨t338, t339, t340⟩ : S32), t343, t346⟩ : S35)] : List (S35))) (inner := [.int .i64 t335, .int .i64 t336, .int .i64 t337, .int .i64 t338, .int .i64 t339, .slice Ao52 t340.length co52, .slice Ao53 t343.length co53, .slice Ao54 t346.length co54]) (ok := (fun k_ => (w.heap.size ≤ k_) ∧ k_ ≠ g)) (okp := (fun k_ => (w.heap.size ≤ k_) ∧ k_ ≠ g)) rn_ ?hp (fun _ hk => hk) ((show ∀ k_, w51.heap.size ≤ k_ → (fun k_ => (w.heap.size ≤ k_) ∧ k_ ≠ g) k_ from fun k_ hk => ⟨(Nat.le_trans (keep_size (w := w) (g := g) (row := none) ab3_) hk), IsS91.fresh ab4_ k_ hk⟩) _ (Nat.le_refl _)) (Below.refl _ _) (Nat.le_refl _) (by simp) ?_; (case hp => exact (Reps.c8 (show Kd.FK k35 _ _ (⟨t335, t336, t337, (⟨t338, t339, t340⟩ : S32), t343, t346⟩ : S35) [.int .i64 t335, .int .i64 t336, .int .i64 t337, .int .i64 t338, .int .i64 t339, .slice Ao52 t340.length co52, .slice Ao53 t343.length co53, .slice Ao54 t346.length co54] from (k35_mkF _ _ (⟨t335, t336, t337, (⟨t338, t339, t340⟩ : S32), t343, t346⟩ : S35) (Kd.N_reads' (Kd.N_mono (ok' := (fun k_ => (w.heap.size ≤ k_) ∧ k_ ≠ g)) (HO342.out) (fun k_ hk => ⟨hk.1, hk.2.2.2⟩))).2.1 (Kd.N_F (Kd.N_mono (ok' := (fun k_ => (w.heap.size ≤ k_) ∧ k_ ≠ g)) (HO342.out) (fun k_ hk => ⟨hk.1, hk.2.2.2⟩))) (Kd.N_reads' (Kd.N_mono (ok' := (fun k_ => (w.heap.size ≤ k_) ∧ k_ ≠ g)) (HO345.out) (fun k_ hk => ⟨hk.1, hk.2.2.2⟩))).2.1 (Kd.N_F (Kd.N_mono (ok' := (fun k_ => (w.heap.size ≤ k_) ∧ k_ ≠ g)) (HO345.out) (fun k_ hk => ⟨hk.1, hk.2.2.2⟩))) (Kd.N_reads' (Kd.N_mono (ok' := (fun k_ => (w.heap.size ≤ k_) ∧ k_ ≠ g)) (HO348.out) (fun k_ hk => ⟨hk.1, hk.2.2.2⟩))).2.1 (Kd.N_F (Kd.N_mono (ok' := (fun k_ => (w.heap.size ≤ k_) ∧ k_ ≠ g)) (HO348.out) (fun k_ hk => ⟨hk.1, hk.2.2.2⟩))))) (Reps.none _ _))); intro v351 w55 ho56 hb hg_ hnew_; clear hg_ hnew_; (first | rw [← Ny350.out] at ho56 | (simp only [Int.reduceToNat] at ho56; rw [← Ny350.out] at ho56)); have HO352 := am (Kd.N_lower ho56 (keep_size (w := w) (g := g) (row := none) ab3_)); replace HK := am (KeepBut.trans ab3_ (KeepBut.of_below hb g none) (.inl rfl)); replace HB := am (below_step ab5_ hb); replace HI0 := am (IsS91.below ab4_ hb); clear HO342 HO345 HO348 hb ho56))
      go_ret
      exact ⟨_, ab11_, by (with_reducible repeat (first | apply Kd.N_alloc | apply Kd.N_drewN | apply Kd.N_drew)); exact Kd.N_mono HO352.out (fun _ hk => hk.1), ab4_, ab5_, ab3_⟩
     replace c49 := Bool.eq_false_iff.mpr c49
     subst c49
     rw [if_neg (show ¬ (false = true) by decide)] at H
     by_cases c57 : t271 = 7
     ·rw [if_pos c57] at H
      have c57b0 : (t271 == 7) = true := beq_iff_eq.mpr c57
      have c57b1 : (t271 != 7) = false := bne_eq_false_iff_eq.mpr c57
      clear c57
      obtain ⟨y353, hy353⟩ : ∃ y_ : List (S35), y_ = (([(⟨6, 0, 0, (⟨0, 0, ([] : List (S32))⟩ : S32), ([] : List (S35)), ([] : List (S35))⟩ : S35)] : List (S35))) := ⟨_, rfl⟩
      replace H : (some (y353, t272)) = some (r1, r2) := by first | (rw [hy353]; with_reducible exact H) | (have H2_ := (Option.bind_some _ _).symm.trans H; rw [hy353]; with_reducible exact H2_) | (have H2_ := (Option.bind_some _ _).symm.trans H; with_reducible exact H2_) | with_reducible exact H | (rw [hy353]; exact H) | exact H
      have Ny353 := am hy353
      clear hy353
      simp only [Option.some.injEq, Prod.mk.injEq] at H
      obtain ⟨rfl, rfl⟩ := H
      go_wp2_with (first | ((with_reducible refine gate_dst (N := 49) rfl ?_); refine Kd.N_lit k35 _ 35 rfl (N' := 49) rfl (xs := ([(⟨6, 0, 0, (⟨0, 0, ([] : List (S32))⟩ : S32), ([] : List (S35)), ([] : List (S35))⟩ : S35)] : List (S35))) (inner := [.int .i64 6, .int .i64 0, .int .i64 0, .int .i64 0, .int .i64 0, .slice none 0 0, .slice none 0 0, .slice none 0 0]) (ok := (fun k_ => (w.heap.size ≤ k_) ∧ k_ ≠ g)) (okp := (fun k_ => (w.heap.size ≤ k_) ∧ k_ ≠ g)) rn_ ?hp (fun _ hk => hk) ((show ∀ k_, wc.heap.size ≤ k_ → (fun k_ => (w.heap.size ≤ k_) ∧ k_ ≠ g) k_ from fun k_ hk => ⟨(Nat.le_trans (keep_size (w := w) (g := g) (row := none) ab3_) hk), IsS91.fresh ab4_ k_ hk⟩) _ (Nat.le_refl _)) (Below.refl _ _) (Nat.le_refl _) (by simp) ?_; (case hp => exact (Reps.c8 (show Kd.FK k35 _ _ (⟨6, 0, 0, (⟨0, 0, ([] : List (S32))⟩ : S32), ([] : List (S35)), ([] : List (S35))⟩ : S35) [.int .i64 6, .int .i64 0, .int .i64 0, .int .i64 0, .int .i64 0, .slice none 0 0, .slice none 0 0, .slice none 0 0] from (k35_mkF _ _ (⟨6, 0, 0, (⟨0, 0, ([] : List (S32))⟩ : S32), ([] : List (S35)), ([] : List (S35))⟩ : S35) (Nat.le_refl _) (Kd.F_nil _ _ _) (Nat.le_refl _) (Kd.F_nil _ _ _) (Nat.le_refl _) (Kd.F_nil _ _ _))) (Reps.none _ _))); intro v354 w58 ho59 hb hg_ hnew_; clear hg_ hnew_; (first | rw [← Ny353.out] at ho59 | (simp only [Int.reduceToNat] at ho59; rw [← Ny353.out] at ho59)); have HO355 := am (Kd.N_lower ho59 (keep_size (w := w) (g := g) (row := none) ab3_)); replace HK := am (KeepBut.trans ab3_ (KeepBut.of_below hb g none) (.inl rfl)); replace HB := am (below_step ab5_ hb); replace HI0 := am (IsS91.below ab4_ hb); clear hb ho59))
      go_ret
      exact ⟨_, ab11_, by (with_reducible repeat (first | apply Kd.N_alloc | apply Kd.N_drewN | apply Kd.N_drew)); exact Kd.N_mono HO355.out (fun _ hk => hk.1), ab4_, ab5_, ab3_⟩
     rw [if_neg c57] at H
     have c57b0 : (t271 == 7) = false := beq_eq_false_iff_ne.mpr c57
     have c57b1 : (t271 != 7) = true := bne_iff_ne.mpr c57
     obtain ⟨⟨t356, t357⟩, A600, H⟩ := bsm H
     (try dsimp only at H)
     have A60 := am A600
     clear A600
     obtain ⟨⟨t358, t359, t360, t363⟩, A610, H⟩ := bsm H
     (try dsimp only at H)
     have A61 := am A610
     clear A610
     obtain ⟨y364, hy364⟩ : ∃ y_ : List (S35), y_ = (([(⟨7, 0, 0, (⟨t358, t359, t360⟩ : S32), ([] : List (S35)), ([] : List (S35))⟩ : S35)] : List (S35))) := ⟨_, rfl⟩
     replace H : (some (y364, t363)) = some (r1, r2) := by first | (rw [hy364]; with_reducible exact H) | (have H2_ := (Option.bind_some _ _).symm.trans H; rw [hy364]; with_reducible exact H2_) | (have H2_ := (Option.bind_some _ _).symm.trans H; with_reducible exact H2_) | with_reducible exact H | (rw [hy364]; exact H) | exact H
     have Ny364 := am hy364
     clear hy364
     simp only [Option.some.injEq, Prod.mk.injEq] at H
     obtain ⟨rfl, rfl⟩ := H
     go_wp2_with (first | ((with_reducible refine gate_callee (f := 41) rfl ?_); refine goesL_ (some 52) rfl rfl Try.func41 (by kernel_rfl) rfl #[.pointer (some ⟨g, 0, none⟩), .int .i64 3] rfl ab1_ ?_; (with_reducible refine (spec_l6Rd_pick.calls kj45 g s0_0 t272 3 t356 t357 w0 _ ?side1 ?side2 A60.out).mono ?_); (case side1 => exact ab4_); (case side2 => exact ab5_); rintro e w62 ⟨rfl, hi, hb, hk⟩; refine ⟨_, rfl, ?_⟩; replace HK := am (KeepBut.trans ab3_ hk (.inl rfl)); replace HB := am (hb); replace HI0 := am (hi); (try clear hb); (try clear hb2); (try clear hk); (try clear hi)) | ((with_reducible refine gate_callee (f := 76) rfl ?_); refine goesL_ (some 54) rfl rfl Try.func76 (by kernel_rfl) rfl #[.pointer (some ⟨g, 0, none⟩), .int .i64 (wrap64 (1 + t356))] rfl ab1_ ?_; (with_reducible refine (spec_l91Expr.calls kj45 g s0_0 t357 (wrap64 (1 + t356)) t358 t359 t360 t363 w0 _ ?side1 ?side2 A61.out).mono ?_); (case side1 => exact ab4_); (case side2 => exact ab5_); rintro e w63 ⟨v361, rfl, ho0, hi, hb, hk⟩; refine ⟨_, rfl, ?_⟩; have HO362 := am (Kd.N_lower (Kd.N_mono (ok' := fun k_ => (w.heap.size ≤ k_) ∧ k_ ≠ g) ho0 (fun k_ hk_ => ⟨(Nat.le_trans (keep_size (w := w) (g := g) (row := none) ab3_) hk_), (IsS91.fresh ab4_ k_ hk_)⟩)) (keep_size (w := w) (g := g) (row := none) ab3_)); replace HK := am (KeepBut.trans ab3_ hk (.inl rfl)); replace HB := am (hb); replace HI0 := am (hi); (try clear hb); (try clear hb2); (try clear hk); (try clear hi); (try clear ho0); obtain ⟨Ao64, co64, eo64⟩ := Kd.N_slice HO362.out; subst eo64) | ((with_reducible refine gate_dst (N := 56) rfl ?_); refine Kd.N_lit k35 _ 35 rfl (N' := 56) rfl (xs := ([(⟨7, 0, 0, (⟨t358, t359, t360⟩ : S32), ([] : List (S35)), ([] : List (S35))⟩ : S35)] : List (S35))) (inner := [.int .i64 7, .int .i64 0, .int .i64 0, .int .i64 t358, .int .i64 t359, .slice Ao64 t360.length co64, .slice none 0 0, .slice none 0 0]) (ok := (fun k_ => (w.heap.size ≤ k_) ∧ k_ ≠ g)) (okp := (fun k_ => (w.heap.size ≤ k_) ∧ k_ ≠ g)) rn_ ?hp (fun _ hk => hk) ((show ∀ k_, w63.heap.size ≤ k_ → (fun k_ => (w.heap.size ≤ k_) ∧ k_ ≠ g) k_ from fun k_ hk => ⟨(Nat.le_trans (keep_size (w := w) (g := g) (row := none) ab3_) hk), IsS91.fresh ab4_ k_ hk⟩) _ (Nat.le_refl _)) (Below.refl _ _) (Nat.le_refl _) (by simp) ?_; (case hp => exact (Reps.c8 (show Kd.FK k35 _ _ (⟨7, 0, 0, (⟨t358, t359, t360⟩ : S32), ([] : List (S35)), ([] : List (S35))⟩ : S35) [.int .i64 7, .int .i64 0, .int .i64 0, .int .i64 t358, .int .i64 t359, .slice Ao64 t360.length co64, .slice none 0 0, .slice none 0 0] from (k35_mkF _ _ (⟨7, 0, 0, (⟨t358, t359, t360⟩ : S32), ([] : List (S35)), ([] : List (S35))⟩ : S35) (Kd.N_reads' (Kd.N_mono (ok' := (fun k_ => (w.heap.size ≤ k_) ∧ k_ ≠ g)) (HO362.out) (fun k_ hk => ⟨hk.1, hk.2⟩))).2.1 (Kd.N_F (Kd.N_mono (ok' := (fun k_ => (w.heap.size ≤ k_) ∧ k_ ≠ g)) (HO362.out) (fun k_ hk => ⟨hk.1, hk.2⟩))) (Nat.le_refl _) (Kd.F_nil _ _ _) (Nat.le_refl _) (Kd.F_nil _ _ _))) (Reps.none _ _))); intro v365 w65 ho66 hb hg_ hnew_; clear hg_ hnew_; (first | rw [← Ny364.out] at ho66 | (simp only [Int.reduceToNat] at ho66; rw [← Ny364.out] at ho66)); have HO366 := am (Kd.N_lower ho66 (keep_size (w := w) (g := g) (row := none) ab3_)); replace HK := am (KeepBut.trans ab3_ (KeepBut.of_below hb g none) (.inl rfl)); replace HB := am (below_step ab5_ hb); replace HI0 := am (IsS91.below ab4_ hb); clear HO362 hb ho66))
     go_ret
     exact ⟨_, ab11_, by (with_reducible repeat (first | apply Kd.N_alloc | apply Kd.N_drewN | apply Kd.N_drew)); exact Kd.N_mono HO366.out (fun _ hk => hk.1), ab4_, ab5_, ab3_⟩
theorem spec_l92Block.step (k : Nat) (ih_spec_l92Loop : ∀ m, m < k → spec_l92Loop.CallsAt m) (ih_spec_l92Stmt : ∀ m, m < k → spec_l92Stmt.CallsAt m) (ih_spec_l92Block : ∀ m, m < k → spec_l92Block.CallsAt m) (ih_spec_l92If : ∀ m, m < k → spec_l92If.CallsAt m) : spec_l92Block.CallsAt k := by
 intro g s0_0 s0_1 a1 a2 a3 a4 r1 r2 w0 w hI hB h
 cases k with
 | zero => exact absurd h (by simp [spec_l92Block.f])
 | succ k =>
 simp only [spec_l92Block.f] at h
 have HI0 := am hI
 have HK := am (KeepBut.refl w g none)
 have HL := am hB.size
 clear hI
 have HW0 := am hB.size
 have HB := am hB
 clear hB
 have H : (spec_l92Block.l0 k a1 a2 a3 a4 (([] : List (S35))) 0 s0_0 s0_1) = some (r1, r2) := h
 clear h
 obtain ⟨y367, hy367⟩ : ∃ y_ : List (S35), y_ = (([] : List (S35))) := ⟨_, rfl⟩
 replace H : (spec_l92Block.l0 k a1 a2 a3 a4 y367 0 s0_0 s0_1) = some (r1, r2) := by first | (rw [hy367]; with_reducible exact H) | (have H2_ := (Option.bind_some _ _).symm.trans H; rw [hy367]; with_reducible exact H2_) | (have H2_ := (Option.bind_some _ _).symm.trans H; with_reducible exact H2_) | with_reducible exact H | (rw [hy367]; exact H) | exact H
 have Ny367 := am hy367
 clear hy367
 have H' := am H
 clear H
 go_enter Try.func77, Try.ntmps77
 go_wp2_with (first | ((with_reducible refine gate_dst (N := 13) rfl ?_); refine Kd.N_lit k35 _ 35 rfl (N' := 13) rfl (xs := ([] : List (S35))) (inner := []) (ok := (fun k_ => (w.heap.size ≤ k_) ∧ k_ ≠ g)) (okp := (fun k_ => (w.heap.size ≤ k_) ∧ k_ ≠ g)) rn_ ?hp (fun _ hk => hk) ((show ∀ k_, w.heap.size ≤ k_ → (fun k_ => (w.heap.size ≤ k_) ∧ k_ ≠ g) k_ from fun k_ hk => ⟨(Nat.le_trans (keep_size (w := w) (g := g) (row := none) ab3_) hk), IsS91.fresh ab4_ k_ hk⟩) _ (Nat.le_refl _)) (Below.refl _ _) (Nat.le_refl _) (by simp) ?_; (case hp => exact (Reps.none _ _)); intro v368 w6 ho7 hb hg_ hnew_; clear hg_ hnew_; (first | rw [← Ny367.out] at ho7 | (simp only [Int.reduceToNat] at ho7; rw [← Ny367.out] at ho7)); have HO369 := am (Kd.N_lower ho7 (keep_size (w := w) (g := g) (row := none) ab3_)); replace HK := am (KeepBut.trans ab3_ (KeepBut.of_below hb g none) (.inl rfl)); replace HB := am (below_step ab5_ hb); replace HI0 := am (IsS91.below ab4_ hb); clear hb ho7))
 go_loopg [11, 12] k (fun kq v11 v12 w' => ∃ (x11_1 : List (S35)) (x12_1 : Int) (x1001_1 : Int), v12 = .int .i64 x12_1 ∧ Aside0 (spec_l92Block.l0 kq a1 a2 a3 a4 x11_1 x12_1 s0_0 x1001_1 = some (r1, r2)) ∧ Aside0 (kq ≤ k) ∧ Aside0 (Kd.N k35 35 w' w.heap.size (fun k_ => (w.heap.size ≤ k_) ∧ k_ ≠ g) v11 x11_1) ∧ Aside0 (IsS91 w0 w' g s0_0 x1001_1) ∧ Aside0 (KeepBut w w' g none) ∧ Aside0 (Below w0.heap.size w0 w'))
 case atStart => exact ⟨(y367), (0), (s0_1), sd_, H', ⟨Nat.le_refl _⟩, ⟨by (with_reducible repeat (first | apply Kd.N_alloc | apply Kd.N_drewN | apply Kd.N_drew)); exact HO369.out⟩, ⟨ab4_⟩, ⟨ab3_⟩, ⟨ab5_⟩⟩
 case round =>
  clear H'
  obtain ⟨x11_1, x12_1, x1001_1, rfl, HA, HK1, HO_11, HI0, HK, HB⟩ := hrel
  cases gk with
  | zero => exact absurd HA.out (by simp [spec_l92Block.l0])
  | succ k1 =>
   have H := HA.out
   clear HA
   simp only [spec_l92Block.l0] at H
   by_cases c8 : x12_1 < a3
   ·rw [if_pos c8] at H
    have c8b0 : decide (x12_1 < a3) = true := decide_eq_true c8
    clear c8
    obtain ⟨⟨t370, t373⟩, A90, H⟩ := bsm H
    (try dsimp only at H)
    have A9 := am A90
    clear A90
    by_cases c10 : x11_1.length + t370.length < 1256584717458
    ·rw [if_pos c10] at H
     have LMc10 := am c10
     clear c10
     obtain ⟨y374, hy374⟩ : ∃ y_ : List (S35), y_ = (x11_1 ++ t370) := ⟨_, rfl⟩
     replace H : (spec_l92Block.l0 k1 a1 a2 a3 a4 y374 (wrap64 (x12_1 + 1)) s0_0 t373) = some (r1, r2) := by first | (rw [hy374]; with_reducible exact H) | (have H2_ := (Option.bind_some _ _).symm.trans H; rw [hy374]; with_reducible exact H2_) | (have H2_ := (Option.bind_some _ _).symm.trans H; with_reducible exact H2_) | with_reducible exact H | (rw [hy374]; exact H) | exact H
     have Ny374 := am hy374
     clear hy374
     have H' := am H
     clear H
     go_wp2_with (first | ((with_reducible refine gate_callee (f := 93) rfl ?_); refine goesL_ (some 24) rfl rfl Try.func93 (by kernel_rfl) rfl #[.pointer (some ⟨g, 0, none⟩), .int .i64 a1, .int .i64 a2, .bool a4] rfl ab1_ ?_; (with_reducible refine (ih_spec_l92Stmt k1 (by have := HK1.out; omega) g s0_0 x1001_1 a1 a2 a4 t370 t373 w0 _ ?side1 ?side2 A9.out).mono ?_); (case side1 => exact ab4_); (case side2 => exact ab5_); rintro e w11 ⟨v371, rfl, ho0, hi, hb, hk⟩; refine ⟨_, rfl, ?_⟩; have HO372 := am (Kd.N_lower (Kd.N_mono (ok' := fun k_ => (w.heap.size ≤ k_) ∧ some k_ ≠ (u11 : Value).ownBlock ∧ k_ ≠ g) ho0 (fun k_ hk_ => ⟨(Nat.le_trans (keep_size (w := w) (g := g) (row := none) ab3_) hk_), (Kd.fresh' (Kd.N_lt (aN_ HO_11.out)) k_ hk_), (IsS91.fresh ab4_ k_ hk_)⟩)) (keep_size (w := w) (g := g) (row := none) ab3_)); replace HO_11 := am (Kd.N_mono (Kd.N_told (Kd.N_oldK (Kd.N_mono (ok := fun k_ => (((w.heap.size ≤ k_)) ∧ k_ ≠ g)) (aN_ HO_11.out) (fun k_ hk_ => (⟨hk_, hk_.2⟩ : _ ∧ k_ ≠ g))) hk) (by first | exact Kd.N_base ho0 | exact Kd.N_base (Kd.R_N ho0))) (fun _ h_ => h_.1)); replace HK := am (KeepBut.trans ab3_ hk (.inl rfl)); replace HB := am (hb); replace HI0 := am (hi); (try clear hb); (try clear hb2); (try clear hk); (try clear hi); (try clear ho0); obtain ⟨Ao13, co13, eo13⟩ := Kd.N_slice HO372.out; subst eo13) | ((with_reducible refine gate_builtin (b := .append) (xs := #[.tmp 19, .tmp 24]) rfl ?_); at_builtin; refine Kd.N_append_rows k35 w.heap.size rfl (.tmp 19) (.tmp 24) 23 35 (.agg #[(.int .i64 0), (.int .i64 0), (.int .i64 0), (.int .i64 0), (.int .i64 0), (.slice none 0 0), (.slice none 0 0), (.slice none 0 0)]) 112 rfl Try.underlying23 info35 rfl (by decide) (by omega) u11 x11_1 t370 _ _ _ (fun k_ => (w.heap.size ≤ k_) ∧ k_ ≠ g) (fun k_ => ((fun k_ => (w.heap.size ≤ k_) ∧ k_ ≠ g)) k_ ∧ some k_ ≠ (u11 : Value).ownBlock) rfl rfl ?aO ?aR (fun _ hk => hk) ?aF (Below.refl _ _) ?aS ?aL ?_; (case aR => exact (by skip; exact Kd.N_F (Kd.N_mono (ok' := (fun k_ => ((fun k_ => (w.heap.size ≤ k_) ∧ k_ ≠ g)) k_ ∧ some k_ ≠ (u11 : Value).ownBlock)) (HO372.out) (fun k_ hk => ⟨⟨hk.1, hk.2.2⟩, hk.2.1⟩)))); (case aF => exact (fun k_ hk => ⟨(Nat.le_trans (keep_size (w := w) (g := g) (row := none) ab3_) hk), IsS91.fresh ab4_ k_ hk⟩)); (case aO => exact (by (with_reducible repeat (first | apply Kd.N_alloc | apply Kd.N_drewN | apply Kd.N_drew)); exact Kd.N_mono HO_11.out (fun _ hk => ⟨hk.1.1, hk.1.2⟩))); (case aS => exact (keep_size (w := w) (g := g) (row := none) ab3_)); (case aL => have := LMc10.out; omega); intro v375 w12 ho hb hg hat; rw [← Ny374.out] at ho; replace HO372 := am (Kd.N_afterv (ok := (fun k_ => (w.heap.size ≤ k_) ∧ k_ ≠ g)) (by (with_reducible repeat (first | apply Kd.N_alloc | apply Kd.N_drewN | apply Kd.N_drew)); exact Kd.N_mono HO372.out (fun _ hk => ⟨⟨hk.1, hk.2.2⟩, hk.2.1⟩)) hg hat); replace HB := am (below_weaken ab5_ HL.out hb); replace HI0 := am (IsS91.grown ab4_ hg (IsS91.own_neN HI0.out HO_11.out (by decide))); replace HK := am (KeepBut.trans ab3_ (KeepBut.of_grown hg g) (Kd.N_base2 HO_11.out)); have HO376 := am (ho); clear HO_11 ho hb hg hat))
     go_roundg k1
     case measure => have := HK1.out; omega
     case rel => exact ⟨(y374), (wrap64 (x12_1 + 1)), (t373), sd_, H', ⟨by have := HK1.out; omega⟩, ⟨by (with_reducible repeat (first | apply Kd.N_alloc | apply Kd.N_drewN | apply Kd.N_drew)); exact HO376.out⟩, ⟨ab4_⟩, ⟨ab3_⟩, ⟨ab5_⟩⟩
    rw [if_neg c10] at H
    exact absurd H (by simp)
   rw [if_neg c8] at H
   have c8b0 : decide (x12_1 < a3) = false := decide_eq_false c8
   clear c8
   simp only [Option.some.injEq, Prod.mk.injEq] at H
   obtain ⟨rfl, rfl⟩ := H
   go_wp2
   go_ret
   exact ⟨_, ab11_, by (with_reducible repeat (first | apply Kd.N_alloc | apply Kd.N_drewN | apply Kd.N_drew)); exact Kd.N_mono HO_11.out (fun _ hk => hk.1), ab4_, ab5_, ab3_⟩
def spec_l92If.T3 : Bool × List (List Nat × List Nat) := (true, [([], []), ([], []), ([], []), ([], []), ([], []), ([4], [4]), ([], []), ([6], [6]), ([], []), ([2, 3, 5, 7, 8, 7], [2, 3, 5, 7, 8]), ([0, 1, 9], [0, 1, 9]), ([10, 9, 0, 1, 2, 3, 4, 5, 6, 7, 8, 9, 10], [10])])
def spec_l92If.B3 : List Nat := [0, 0, 0, 0, 0, 16, 0, 64, 0, 508, 1023, 2047]
theorem spec_l92If.tab3 : rtab .any (opsOf Try.f42 3) = spec_l92If.T3 := by kernel_rfl
theorem spec_l92If.bits3 : waitsOk spec_l92If.T3.2 spec_l92If.B3 = true := by kernel_rfl
theorem spec_l92If.step (k : Nat) (ih_spec_l92Loop : ∀ m, m < k → spec_l92Loop.CallsAt m) (ih_spec_l92Stmt : ∀ m, m < k → spec_l92Stmt.CallsAt m) (ih_spec_l92Block : ∀ m, m < k → spec_l92Block.CallsAt m) (ih_spec_l92If : ∀ m, m < k → spec_l92If.CallsAt m) : spec_l92If.CallsAt k := by
 intro g s0_0 s0_1 a1 a2 a3 r1 r2 r3 r4 r5 r6 r7 r8 r9 w0 w hI hB h
 cases k with
 | zero => exact absurd h (by simp [spec_l92If.f])
 | succ k =>
 simp only [spec_l92If.f] at h
 have hu35 := Try.underlying35
 have hu32 := Try.underlying32
 have HI0 := am hI
 have HK := am (KeepBut.refl w g none)
 have HL := am hB.size
 clear hI
 have HW0 := am hB.size
 have HB := am hB
 clear hB
 have H : ((spec_l6Rd_pick.f k s0_0 s0_1 2).bind fun bt378 => ((spec_l91Expr.f k s0_0 bt378.2 (wrap64 (1 + bt378.1))).bind fun bt380 => ((spec_l6Rd_pick.f k s0_0 bt380.2.2.2 3).bind fun bt387 => ((spec_l92Block.f k s0_0 bt387.2 a1 (wrap64 (a2 - 1)) bt387.1 a3).bind fun bt389 => ((spec_l6Rd_pick.f k s0_0 bt389.2 3).bind fun bt393 => ((spec_l92Block.f k s0_0 bt393.2 a1 (wrap64 (a2 - 1)) bt393.1 a3).bind fun bt395 => (some (2, 0, 0, bt380.1, bt380.2.1, bt380.2.2.1, bt389.1, bt395.1, bt395.2)))))))) = some (r1, r2, r3, r4, r5, r6, r7, r8, r9) := h
 clear h
 obtain ⟨⟨t378, t379⟩, A50, H⟩ := bsm H
 (try dsimp only at H)
 have A5 := am A50
 clear A50
 obtain ⟨⟨t380, t381, t382, t385⟩, A60, H⟩ := bsm H
 (try dsimp only at H)
 have A6 := am A60
 clear A60
 obtain ⟨⟨t387, t388⟩, A70, H⟩ := bsm H
 (try dsimp only at H)
 have A7 := am A70
 clear A70
 obtain ⟨⟨t389, t392⟩, A80, H⟩ := bsm H
 (try dsimp only at H)
 have A8 := am A80
 clear A80
 obtain ⟨⟨t393, t394⟩, A90, H⟩ := bsm H
 (try dsimp only at H)
 have A9 := am A90
 clear A90
 obtain ⟨⟨t395, t398⟩, A100, H⟩ := bsm H
 (try dsimp only at H)
 have A10 := am A100
 clear A100
 simp only [Option.some.injEq, Prod.mk.injEq] at H
 obtain ⟨rfl, rfl, rfl, rfl, rfl, rfl, rfl, rfl, rfl⟩ := H
 go_enter Try.func42, Try.ntmps42
 try go_wp2_with (first | ((with_reducible refine gate_dst (N := 8) rfl ?_); refine box_event rfl (N := 8) rfl (cs := #[.int .i64 0, .int .i64 0, .int .i64 0, .int .i64 0, .int .i64 0, .slice none 0 0, .slice none 0 0, .slice none 0 0]) (t := 35) rn_ ?_; intro gb377 hg w11 hbox hb; replace HB := am (below_step ab5_ hb); have BK377 := am (hbox); have GW377 := am ((by rw [hg]; exact (keep_size (w := w) (g := g) (row := none) ab3_) : w.heap.size ≤ gb377)); have GE377 := am ((Nat.le_trans HW0.out (by rw [hg]; exact (keep_size (w := w) (g := g) (row := none) ab3_) : w.heap.size ≤ gb377) : w0.heap.size ≤ gb377)); replace HK := am (KeepBut.trans ab3_ (KeepBut.of_below hb g none) (.inl rfl)); have NB0_377 := am ((by rw [hg]; exact Nat.ne_of_lt (IsS91.lt (show IsS91 w0 _ g s0_0 s0_1 from by repeat (first | (with_reducible first | exact HI0.out | apply IsS91.alloc | apply IsS91.drewN | apply IsS91.drew | apply IsS91.set_1) | exact HI0.out))) : g ≠ gb377)); have NB377_0 := am ((by rw [hg]; exact Nat.ne_of_gt (IsS91.lt (show IsS91 w0 _ g s0_0 s0_1 from by repeat (first | (with_reducible first | exact HI0.out | apply IsS91.alloc | apply IsS91.drewN | apply IsS91.drew | apply IsS91.set_1) | exact HI0.out))) : gb377 ≠ g)); replace HI0 := am (IsS91.below ab4_ hb); clear hb hbox hg) | ((with_reducible refine gate_callee (f := 41) rfl ?_); refine goesL_ (some 13) rfl rfl Try.func41 (by kernel_rfl) rfl #[.pointer (some ⟨g, 0, none⟩), .int .i64 2] rfl ab1_ ?_; (with_reducible refine (spec_l6Rd_pick.calls k g s0_0 s0_1 2 t378 t379 w0 _ ?side1 ?side2 A5.out).mono ?_); (case side1 => exact ab79_); (case side2 => repeat (first | (with_reducible first | exact HB.out | apply below_alloc | apply pw_below_drewN | apply below_drew1 | refine below_set ?_ (IsS91.ge HI0.out) | refine below_set ?_ GE377.out) | exact HB.out)); rintro e w12 ⟨rfl, hi, hb, hk⟩; refine ⟨_, rfl, ?_⟩; replace BK377 := am (KeepBut.blk hk (g' := gb377) (o := .cells #[.int .i64 0, .int .i64 0, .int .i64 0, .int .i64 0, .int .i64 0, .slice none 0 0, .slice none 0 0, .slice none 0 0] 35 (0, 0)) (aG_ BK377.out) NB377_0.out (by simp)); replace HK := am (KeepBut.trans ab50_ hk (.inl rfl)); replace HB := am (hb); replace HI0 := am (hi); (try clear hb); (try clear hb2); (try clear hk); (try clear hi)) | ((with_reducible refine gate_callee (f := 76) rfl ?_); refine goesL_ (some 15) rfl rfl Try.func76 (by kernel_rfl) rfl #[.pointer (some ⟨g, 0, none⟩), .int .i64 (wrap64 (1 + t378))] rfl ab1_ ?_; (with_reducible refine (spec_l91Expr.calls k g s0_0 t379 (wrap64 (1 + t378)) t380 t381 t382 t385 w0 _ ?side1 ?side2 A6.out).mono ?_); (case side1 => exact ab79_); (case side2 => repeat (first | (with_reducible first | exact HB.out | apply below_alloc | apply pw_below_drewN | apply below_drew1 | refine below_set ?_ (IsS91.ge HI0.out) | refine below_set ?_ GE377.out) | exact HB.out)); rintro e w13 ⟨v383, rfl, ho0, hi, hb, hk⟩; refine ⟨_, rfl, ?_⟩; have HO384 := am (Kd.N_lower (Kd.N_mono (ok' := fun k_ => (w.heap.size ≤ k_) ∧ k_ ≠ gb377 ∧ k_ ≠ g) ho0 (fun k_ hk_ => ⟨(Nat.le_trans (keep_size (w := w) (g := g) (row := none) ab50_) hk_), (frb_ BK377.out k_ hk_), (IsS91.fresh ab79_ k_ hk_)⟩)) (keep_size (w := w) (g := g) (row := none) ab50_)); replace BK377 := am (KeepBut.blk hk (g' := gb377) (o := .cells #[.int .i64 0, .int .i64 0, .int .i64 0, .int .i64 0, .int .i64 0, .slice none 0 0, .slice none 0 0, .slice none 0 0] 35 (0, 0)) (aG_ BK377.out) NB377_0.out (by simp)); replace HK := am (KeepBut.trans ab50_ hk (.inl rfl)); replace HB := am (hb); replace HI0 := am (hi); (try clear hb); (try clear hb2); (try clear hk); (try clear hi); (try clear ho0)) | ((with_reducible refine gate_dst (N := 9) rfl ?_); refine box_event rfl (N := 9) rfl (cs := #[.int .i64 0, .int .i64 0, .slice none 0 0]) (t := 32) rn_ ?_; intro gb386 hg w14 hbox hb; replace HO384 := am (Kd.N_below (Kd.N_elderB (aN_ HO384.out) gb386 (Nat.le_of_eq hg.symm)) hb); replace HB := am (below_step (by repeat (first | (with_reducible first | exact HB.out | apply below_alloc | apply pw_below_drewN | apply below_drew1 | refine below_set ?_ (IsS91.ge HI0.out) | refine below_set ?_ GE377.out) | exact HB.out)) hb); have BK386 := am (hbox); have GW386 := am ((by rw [hg]; exact (keep_size (w := w) (g := g) (row := none) ab50_) : w.heap.size ≤ gb386)); have GE386 := am ((Nat.le_trans HW0.out (by rw [hg]; exact (keep_size (w := w) (g := g) (row := none) ab50_) : w.heap.size ≤ gb386) : w0.heap.size ≤ gb386)); replace HK := am (KeepBut.trans ab50_ (KeepBut.of_below hb g none) (.inl rfl)); have NB377_386 := am ((by rw [hg]; exact Nat.ne_of_lt (blt_ BK377.out) : gb377 ≠ gb386)); have NB386_377 := am ((by rw [hg]; exact Nat.ne_of_gt (blt_ BK377.out) : gb386 ≠ gb377)); replace BK377 := am (bbl_ BK377.out hb); have NB0_386 := am ((by rw [hg]; exact Nat.ne_of_lt (IsS91.lt (show IsS91 w0 _ g s0_0 t385 from by repeat (first | (with_reducible first | exact HI0.out | apply IsS91.alloc | apply IsS91.drewN | apply IsS91.drew | apply IsS91.set_1 | refine IsS91.far ?_ NB0_377.out _) | exact HI0.out))) : g ≠ gb386)); have NB386_0 := am ((by rw [hg]; exact Nat.ne_of_gt (IsS91.lt (show IsS91 w0 _ g s0_0 t385 from by repeat (first | (with_reducible first | exact HI0.out | apply IsS91.alloc | apply IsS91.drewN | apply IsS91.drew | apply IsS91.set_1 | refine IsS91.far ?_ NB0_377.out _) | exact HI0.out))) : gb386 ≠ g)); replace HI0 := am (IsS91.below ab79_ hb); clear hb hbox hg; have hnb15 := NB386_377.out; have hnc15 := NB377_386.out; have hnb16 := NB386_0.out; have hnc16 := NB0_386.out; obtain ⟨hcz17_0, hcz17_1, hcz17_2, hfz17_0, hfz17_1, hfz17_2⟩ := bcf3_ BK386.out; obtain ⟨Ao18, co18, eo18⟩ := Kd.N_slice HO384.out; subst eo18) | ((with_reducible refine gate_callee (f := 41) rfl ?_); refine goesL_ (some 21) rfl rfl Try.func41 (by kernel_rfl) rfl #[.pointer (some ⟨g, 0, none⟩), .int .i64 3] rfl ab1_ ?_; (with_reducible refine (spec_l6Rd_pick.calls k g s0_0 t385 3 t387 t388 w0 _ ?side1 ?side2 A7.out).mono ?_); (case side1 => exact ab62_); (case side2 => repeat (first | (with_reducible first | exact HB.out | apply below_alloc | apply pw_below_drewN | apply below_drew1 | refine below_set ?_ (IsS91.ge HI0.out) | refine below_set ?_ GE377.out | refine below_set ?_ GE386.out) | exact HB.out)); rintro e w19 ⟨rfl, hi, hb, hk⟩; refine ⟨_, rfl, ?_⟩; replace BK377 := am (KeepBut.blk hk (g' := gb377) (o := .cells #[.int .i64 0, .int .i64 0, .int .i64 0, .int .i64 0, .int .i64 0, .slice none 0 0, .slice none 0 0, .slice none 0 0] 35 (0, 0)) (blk_far (blk_far (blk_far BK377.out NB377_386.out _) NB377_386.out _) NB377_386.out _) NB377_0.out (by simp)); replace HO384 := am (Kd.N_mono (Kd.N_keep (Kd.N_mono (ok := fun k_ => ((((w.heap.size ≤ k_)) ∧ (k_ ≠ gb377 ∧ k_ ≠ g)) ∧ k_ ≠ gb386)) (by (with_reducible repeat (first | apply Kd.N_alloc | apply Kd.N_drewN | apply Kd.N_drew)); exact (Kd.N_mono (Kd.N_far (p := ⟨gb386, 2, none⟩) (Kd.N_far (p := ⟨gb386, 1, none⟩) (Kd.N_far (p := ⟨gb386, 0, none⟩) (Kd.N_mono HO384.out (fun k_ hk => (⟨hk, hk.2⟩ : _ ∧ k_ ≠ gb386))) (fun _ hk => hk.2) (.int .i64 t380)) (fun _ hk => hk.2) (.int .i64 t381)) (fun _ hk => hk.2) (.slice Ao18 t382.length co18)) (fun _ h_ => h_.1))) (fun k_ hk_ => (⟨hk_, hk_.1.2.2⟩ : _ ∧ k_ ≠ g))) hk (fun _ h => h.2)) (fun _ h => h.1)); replace BK386 := am (KeepBut.blk hk (g' := gb386) (o := .cells #[.int .i64 t380, .int .i64 t381, .slice Ao18 t382.length co18] 32 (0, 0)) (blk_put (blk_put (blk_put BK386.out 0 _ rfl) 1 _ rfl) 2 _ rfl) NB386_0.out (by simp)); replace HK := am (KeepBut.trans ab36_ hk (.inl rfl)); replace HB := am (hb); replace HI0 := am (hi); (try clear hb); (try clear hb2); (try clear hk); (try clear hi)) | ((with_reducible refine gate_callee (f := 77) rfl ?_); refine goesL_ (some 23) rfl rfl Try.func77 (by kernel_rfl) rfl #[.pointer (some ⟨g, 0, none⟩), .int .i64 a1, .int .i64 (wrap64 (a2 - 1)), .int .i64 t387, .bool a3] rfl ab1_ ?_; (with_reducible refine (ih_spec_l92Block k (by omega) g s0_0 t388 a1 (wrap64 (a2 - 1)) t387 a3 t389 t392 w0 _ ?side1 ?side2 A8.out).mono ?_); (case side1 => exact ab62_); (case side2 => repeat (first | (with_reducible first | exact HB.out | apply below_alloc | apply pw_below_drewN | apply below_drew1 | refine below_set ?_ (IsS91.ge HI0.out) | refine below_set ?_ GE377.out | refine below_set ?_ GE386.out) | exact HB.out)); rintro e w20 ⟨v390, rfl, ho0, hi, hb, hk⟩; refine ⟨_, rfl, ?_⟩; have HO391 := am (Kd.N_lower (Kd.N_mono (ok' := fun k_ => (w.heap.size ≤ k_) ∧ some k_ ≠ (.slice Ao18 t382.length co18 : Value).ownBlock ∧ k_ ≠ gb377 ∧ k_ ≠ gb386 ∧ k_ ≠ g) ho0 (fun k_ hk_ => ⟨(Nat.le_trans (keep_size (w := w) (g := g) (row := none) ab36_) hk_), (Kd.fresh' (Kd.N_lt (aN_ HO384.out)) k_ hk_), (frb_ BK377.out k_ hk_), (frb_ BK386.out k_ hk_), (IsS91.fresh ab62_ k_ hk_)⟩)) (keep_size (w := w) (g := g) (row := none) ab36_)); replace BK377 := am (KeepBut.blk hk (g' := gb377) (o := .cells #[.int .i64 0, .int .i64 0, .int .i64 0, .int .i64 0, .int .i64 0, .slice none 0 0, .slice none 0 0, .slice none 0 0] 35 (0, 0)) (aG_ BK377.out) NB377_0.out (by simp)); replace HO384 := am (Kd.N_mono (Kd.N_told (Kd.N_oldK (Kd.N_mono (ok := fun k_ => ((((w.heap.size ≤ k_)) ∧ (k_ ≠ gb377 ∧ k_ ≠ g)) ∧ k_ ≠ gb386)) (aN_ HO384.out) (fun k_ hk_ => (⟨hk_, hk_.1.2.2⟩ : _ ∧ k_ ≠ g))) hk) (by first | exact Kd.N_base ho0 | exact Kd.N_base (Kd.R_N ho0))) (fun _ h_ => h_.1)); replace BK386 := am (KeepBut.blk hk (g' := gb386) (o := .cells #[.int .i64 t380, .int .i64 t381, .slice Ao18 t382.length co18] 32 (0, 0)) (aG_ BK386.out) NB386_0.out (by simp)); replace HK := am (KeepBut.trans ab36_ hk (.inl rfl)); replace HB := am (hb); replace HI0 := am (hi); (try clear hb); (try clear hb2); (try clear hk); (try clear hi); (try clear ho0)))
 replace HO384 := am (Kd.N_drew HO384.out)
 replace HO391 := am (Kd.N_drew HO391.out)
 replace BK377 := am (blk_drew BK377.out)
 replace BK386 := am (blk_drew BK386.out)
 replace HI0 := am (IsS91.drew HI0.out)
 replace HK := am (keep_drew HK.out)
 replace HB := am (below_drew1 HB.out)
 refine start_ (n := 12) (S := fun w' => w'.cell? ⟨gb386, 0, none⟩ = some (.int .i64 t380) ∧ w'.cell? ⟨gb386, 1, none⟩ = some (.int .i64 t381) ∧ w'.cell? ⟨gb386, 2, none⟩ = some (.slice Ao18 t382.length co18)) (ds := []) #[false, false, false, false, false, false, false, false, false, false, false, false] (by kernel_rfl) rfl rfl ⟨(blk_cell BK386.out 0).trans rfl, (blk_cell BK386.out 1).trans rfl, (blk_cell BK386.out 2).trans rfl⟩ (fun hHeld => ?_); refine with_tabW spec_l92If.tab3 spec_l92If.bits3 (fun HT_ HW_ => ?_)
 generalize w20.drew = w21 at HO384 HO391 BK377 BK386 HI0 HK HB hHeld ⊢
 refine pure_ (i := 1) (N := some 25) (v := ?_) (a' := ?_) #[false, true, false, false, false, false, false, false, false, false, false, false] rfl rfl (any_of HT_.out (by kernel_rfl)) (fun _ _ _ h => h) (Or.inl ⟨by rfl, ?_⟩) ?_ ?_
 rotate_left
 ·intro w'
  go_simp
  with_reducible rfl
 rotate_left
 ·simp only [Act.put, List.setIfInBounds_toArray, List.set_cons_zero, List.set_cons_succ, i64_w, i32_w]
  rfl
 refine pure_ (i := 2) (N := some 26) (v := ?_) (a' := ?_) #[false, true, true, false, false, false, false, false, false, false, false, false] rfl rfl (any_of HT_.out (by kernel_rfl)) (fun _ _ _ h => h) (Or.inl ⟨by rfl, ?_⟩) ?_ ?_
 rotate_left
 ·intro w'
  go_simp
  with_reducible rfl
 rotate_left
 ·simp only [Act.put, List.setIfInBounds_toArray, List.set_cons_zero, List.set_cons_succ, i64_w, i32_w]
  rfl
 refine pure_ (i := 3) (N := some 27) (v := ?_) (a' := ?_) #[false, true, true, true, false, false, false, false, false, false, false, false] rfl rfl (any_of HT_.out (by kernel_rfl)) (fun _ _ _ h => h) (Or.inl ⟨by rfl, ?_⟩) ?_ ?_
 rotate_left
 ·intro w'
  go_simp
  with_reducible rfl
 rotate_left
 ·simp only [Act.put, List.setIfInBounds_toArray, List.set_cons_zero, List.set_cons_succ, i64_w, i32_w]
  rfl
 refine pure_ (i := 4) (N := some 28) (v := ?_) (a' := ?_) #[false, true, true, true, true, false, false, false, false, false, false, false] rfl rfl (any_of HT_.out (by kernel_rfl)) (fun _ _ _ h => h) (Or.inl ⟨by rfl, ?_⟩) ?_ ?_
 rotate_left
 ·intro w'
  go_simp
  with_reducible rfl
 rotate_left
 ·simp only [Act.put, List.setIfInBounds_toArray, List.set_cons_zero, List.set_cons_succ, i64_w, i32_w]
  rfl
 refine pure_ (i := 5) (N := some 29) (v := ?_) (a' := ?_) #[false, true, true, true, true, true, false, false, false, false, false, false] rfl rfl (any_of HT_.out (by kernel_rfl)) (fun _ _ _ h => h) (Or.inl ⟨by rfl, ?_⟩) ?_ ?_
 rotate_left
 ·intro w'
  go_simp
  with_reducible rfl
 rotate_left
 ·simp only [Act.put, List.setIfInBounds_toArray, List.set_cons_zero, List.set_cons_succ, i64_w, i32_w]
  rfl
 refine pure_ (i := 6) (N := some 30) (v := ?_) (a' := ?_) #[false, true, true, true, true, true, true, false, false, false, false, false] rfl rfl (any_of HT_.out (by kernel_rfl)) (fun _ _ _ h => h) (Or.inl ⟨by rfl, ?_⟩) ?_ ?_
 rotate_left
 ·intro w'
  go_simp
  with_reducible rfl
 rotate_left
 ·simp only [Act.put, List.setIfInBounds_toArray, List.set_cons_zero, List.set_cons_succ, i64_w, i32_w]
  rfl
 refine pure_ (i := 8) (N := some 32) (v := ?_) (a' := ?_) #[false, true, true, true, true, true, true, false, true, false, false, false] rfl rfl (any_of HT_.out (by kernel_rfl)) (fun _ _ _ h => h) (Or.inl ⟨by rfl, ?_⟩) ?_ ?_
 rotate_left
 ·intro w'
  go_simp
  with_reducible rfl
 rotate_left
 ·simp only [Act.put, List.setIfInBounds_toArray, List.set_cons_zero, List.set_cons_succ, i64_w, i32_w]
  rfl
 refine take_ (i := 0) (N := some 24) (v := ?_) (a' := ?_) #[true, true, true, true, true, true, true, false, true, false, false, false] rfl rfl (take_ofW HT_.out HW_.out (by kernel_rfl)) (fun _ _ _ h => h) (Or.inl ⟨by rfl, ?_⟩) hHeld ?_ ?_
 rotate_left
 ·rintro w' ⟨s0, s1, s2⟩
  go_simp
  with_reducible rfl
 rotate_left
 ·simp only [Act.put, List.setIfInBounds_toArray, List.set_cons_zero, List.set_cons_succ, i64_w, i32_w]
  rfl
 refine one_ (i := 7) (N := some 31) #[true, true, true, true, true, true, true, true, true, false, false, false] rfl rfl (one_of HT_.out (by kernel_rfl)) (by decide) (fun K hK => ?_)
 refine goes_ Try.func41 (by kernel_rfl) rfl #[.pointer (some ⟨g, 0, none⟩), .int .i64 3] (by rfl) rfl rfl ab1_ ?_
 with_reducible refine (spec_l6Rd_pick.calls k g s0_0 t392 3 t393 t394 w0 _ ?side1 ?side2 A9.out).mono ?_
 (case side1 => exact ab62_)
 (case side2 => repeat (first | (with_reducible first | exact HB.out | apply below_alloc | apply pw_below_drewN | apply below_drew1 | refine below_set ?_ (IsS91.ge HI0.out) | refine below_set ?_ GE377.out | refine below_set ?_ GE386.out) | exact HB.out))
 rintro e w22 ⟨rfl, hi, hb, hk⟩
 refine ⟨_, rfl, ?_⟩
 replace BK377 := am (KeepBut.blk hk (g' := gb377) (o := .cells #[.int .i64 0, .int .i64 0, .int .i64 0, .int .i64 0, .int .i64 0, .slice none 0 0, .slice none 0 0, .slice none 0 0] 35 (0, 0)) (aG_ BK377.out) NB377_0.out (by simp))
 replace HO384 := am (Kd.N_mono (Kd.N_keep (Kd.N_mono (ok := fun k_ => (((((w.heap.size ≤ k_)) ∧ (k_ ≠ gb377 ∧ k_ ≠ g)) ∧ k_ ≠ gb386) ∧ some k_ ≠ (v390 : Value).ownBlock)) (aN_ HO384.out) (fun k_ hk_ => (⟨hk_, hk_.1.1.2.2⟩ : _ ∧ k_ ≠ g))) hk (fun _ h => h.2)) (fun _ h => h.1))
 replace BK386 := am (KeepBut.blk hk (g' := gb386) (o := .cells #[.int .i64 t380, .int .i64 t381, .slice Ao18 t382.length co18] 32 (0, 0)) (aG_ BK386.out) NB386_0.out (by simp))
 replace HO391 := am (Kd.N_mono (Kd.N_keep (Kd.N_mono (ok := fun k_ => (((w.heap.size ≤ k_)) ∧ (some k_ ≠ (.slice Ao18 t382.length co18 : Value).ownBlock ∧ (k_ ≠ gb377 ∧ (k_ ≠ gb386 ∧ k_ ≠ g))))) (aN_ HO391.out) (fun k_ hk_ => (⟨hk_, hk_.2.2.2.2⟩ : _ ∧ k_ ≠ g))) hk (fun _ h => h.2)) (fun _ h => h.1))
 replace HK := am (KeepBut.trans ab36_ hk (.inl rfl))
 replace HB := am (hb)
 replace HI0 := am (hi)
 (try clear hb)
 (try clear hb2)
 (try clear hk)
 (try clear hi)
 refine hK.out _ _ ⟨(blk_cell BK386.out 0).trans rfl, (blk_cell BK386.out 1).trans rfl, (blk_cell BK386.out 2).trans rfl⟩ (fun hHeld => ?_)
 clear hK K
 refine norm_ (a' := ?_) ?_ ?_
 rotate_left
 ·show Act.put _ (some 31) _ = _
  simp only [Act.put, List.setIfInBounds_toArray, List.set_cons_zero, List.set_cons_succ, i64_w, i32_w]
  rfl
 refine one_ (i := 9) (N := some 33) #[true, true, true, true, true, true, true, true, true, true, false, false] rfl rfl (one_of HT_.out (by kernel_rfl)) (by decide) (fun K hK => ?_)
 refine goes_ Try.func77 (by kernel_rfl) rfl #[.pointer (some ⟨g, 0, none⟩), .int .i64 a1, .int .i64 (wrap64 (a2 - 1)), .int .i64 t393, .bool a3] (by rfl) rfl rfl ab1_ ?_
 with_reducible refine (ih_spec_l92Block k (by omega) g s0_0 t394 a1 (wrap64 (a2 - 1)) t393 a3 t395 t398 w0 _ ?side1 ?side2 A10.out).mono ?_
 (case side1 => exact ab62_)
 (case side2 => repeat (first | (with_reducible first | exact HB.out | apply below_alloc | apply pw_below_drewN | apply below_drew1 | refine below_set ?_ (IsS91.ge HI0.out) | refine below_set ?_ GE377.out | refine below_set ?_ GE386.out) | exact HB.out))
 rintro e w23 ⟨v396, rfl, ho0, hi, hb, hk⟩
 refine ⟨_, rfl, ?_⟩
 have HO397 := am (Kd.N_lower (Kd.N_mono (ok' := fun k_ => (w.heap.size ≤ k_) ∧ some k_ ≠ (.slice Ao18 t382.length co18 : Value).ownBlock ∧ some k_ ≠ (v390 : Value).ownBlock ∧ k_ ≠ gb377 ∧ k_ ≠ gb386 ∧ k_ ≠ g) ho0 (fun k_ hk_ => ⟨(Nat.le_trans (keep_size (w := w) (g := g) (row := none) ab36_) hk_), (Kd.fresh' (Kd.N_lt (aN_ HO384.out)) k_ hk_), (Kd.fresh' (Kd.N_lt (aN_ HO391.out)) k_ hk_), (frb_ BK377.out k_ hk_), (frb_ BK386.out k_ hk_), (IsS91.fresh ab62_ k_ hk_)⟩)) (keep_size (w := w) (g := g) (row := none) ab36_))
 replace BK377 := am (KeepBut.blk hk (g' := gb377) (o := .cells #[.int .i64 0, .int .i64 0, .int .i64 0, .int .i64 0, .int .i64 0, .slice none 0 0, .slice none 0 0, .slice none 0 0] 35 (0, 0)) (aG_ BK377.out) NB377_0.out (by simp))
 replace HO384 := am (Kd.N_mono (Kd.N_told (Kd.N_oldK (Kd.N_mono (ok := fun k_ => (((((w.heap.size ≤ k_)) ∧ (k_ ≠ gb377 ∧ k_ ≠ g)) ∧ k_ ≠ gb386) ∧ some k_ ≠ (v390 : Value).ownBlock)) (aN_ HO384.out) (fun k_ hk_ => (⟨hk_, hk_.1.1.2.2⟩ : _ ∧ k_ ≠ g))) hk) (by first | exact Kd.N_base ho0 | exact Kd.N_base (Kd.R_N ho0))) (fun _ h_ => h_.1))
 replace BK386 := am (KeepBut.blk hk (g' := gb386) (o := .cells #[.int .i64 t380, .int .i64 t381, .slice Ao18 t382.length co18] 32 (0, 0)) (aG_ BK386.out) NB386_0.out (by simp))
 replace HO391 := am (Kd.N_mono (Kd.N_told (Kd.N_oldK (Kd.N_mono (ok := fun k_ => (((w.heap.size ≤ k_)) ∧ (some k_ ≠ (.slice Ao18 t382.length co18 : Value).ownBlock ∧ (k_ ≠ gb377 ∧ (k_ ≠ gb386 ∧ k_ ≠ g))))) (aN_ HO391.out) (fun k_ hk_ => (⟨hk_, hk_.2.2.2.2⟩ : _ ∧ k_ ≠ g))) hk) (by first | exact Kd.N_base ho0 | exact Kd.N_base (Kd.R_N ho0))) (fun _ h_ => h_.1))
 replace HK := am (KeepBut.trans ab36_ hk (.inl rfl))
 replace HB := am (hb)
 replace HI0 := am (hi)
 (try clear hb)
 (try clear hb2)
 (try clear hk)
 (try clear hi)
 (try clear ho0)
 obtain ⟨Ao24, co24, eo24⟩ := Kd.N_slice HO397.out
 (first | subst eo24 | (injection eo24 with f1_ f2_ f3_; have f4_ := f1_.symm; have f5_ := f3_.symm; clear f1_ f2_ f3_; subst f4_; subst f5_))
 obtain ⟨Ao25, co25, eo25⟩ := Kd.N_slice HO391.out
 (first | subst eo25 | (injection eo25 with f1_ f2_ f3_; have f4_ := f1_.symm; have f5_ := f3_.symm; clear f1_ f2_ f3_; subst f4_; subst f5_))
 refine hK.out _ _ ⟨(blk_cell BK386.out 0).trans rfl, (blk_cell BK386.out 1).trans rfl, (blk_cell BK386.out 2).trans rfl⟩ (fun hHeld => ?_)
 clear hK K
 refine norm_ (a' := ?_) ?_ ?_
 rotate_left
 ·show Act.put _ (some 33) _ = _
  simp only [Act.put, List.setIfInBounds_toArray, List.set_cons_zero, List.set_cons_succ, i64_w, i32_w]
  rfl
 refine pure_ (i := 10) (N := some 34) (v := ?_) (a' := ?_) #[true, true, true, true, true, true, true, true, true, true, true, false] rfl rfl (any_of HT_.out (by kernel_rfl)) (fun _ _ _ h => h) (Or.inl ⟨by rfl, ?_⟩) ?_ ?_
 rotate_left
 ·intro w'
  go_simp
  with_reducible rfl
 rotate_left
 ·simp only [Act.put, List.setIfInBounds_toArray, List.set_cons_zero, List.set_cons_succ, i64_w, i32_w]
  rfl
 refine one_ (i := 11) (N := none) #[true, true, true, true, true, true, true, true, true, true, true, true] rfl rfl (one_of HT_.out (by kernel_rfl)) (by decide) (fun K hK => ?_)
 have hs26 : w23.cell? ⟨gb377, 0, none⟩ = some (.int .i64 0) := (blk_cell BK377.out 0).trans rfl
 have hfs26 := blk_frozen BK377.out 0
 have hns26_1 := NB386_377.out
 have hms26_1 := NB377_386.out
 have hs27 : w23.cell? ⟨gb377, 1, none⟩ = some (.int .i64 0) := (blk_cell BK377.out 1).trans rfl
 have hfs27 := blk_frozen BK377.out 1
 have hns27_1 := NB386_377.out
 have hms27_1 := NB377_386.out
 have hs28 : w23.cell? ⟨gb377, 2, none⟩ = some (.int .i64 0) := (blk_cell BK377.out 2).trans rfl
 have hfs28 := blk_frozen BK377.out 2
 have hns28_1 := NB386_377.out
 have hms28_1 := NB377_386.out
 have hs29 : w23.cell? ⟨gb377, 3, none⟩ = some (.int .i64 0) := (blk_cell BK377.out 3).trans rfl
 have hfs29 := blk_frozen BK377.out 3
 have hns29_1 := NB386_377.out
 have hms29_1 := NB377_386.out
 have hs30 : w23.cell? ⟨gb377, 4, none⟩ = some (.int .i64 0) := (blk_cell BK377.out 4).trans rfl
 have hfs30 := blk_frozen BK377.out 4
 have hns30_1 := NB386_377.out
 have hms30_1 := NB377_386.out
 have hs31 : w23.cell? ⟨gb377, 5, none⟩ = some (.slice none 0 0) := (blk_cell BK377.out 5).trans rfl
 have hfs31 := blk_frozen BK377.out 5
 have hns31_1 := NB386_377.out
 have hms31_1 := NB377_386.out
 have hs32 : w23.cell? ⟨gb377, 6, none⟩ = some (.slice none 0 0) := (blk_cell BK377.out 6).trans rfl
 have hfs32 := blk_frozen BK377.out 6
 have hns32_1 := NB386_377.out
 have hms32_1 := NB377_386.out
 have hs33 : w23.cell? ⟨gb377, 7, none⟩ = some (.slice none 0 0) := (blk_cell BK377.out 7).trans rfl
 have hfs33 := blk_frozen BK377.out 7
 have hns33_1 := NB386_377.out
 have hms33_1 := NB377_386.out
 refine skip_ (w1 := ?_) (by rfl) rfl ?_ ?_
 rotate_left
 ·go_simp
  rfl
 refine hK.out _ _ ⟨((cell_far (p := ⟨gb377, _, none⟩) NB386_377.out _).trans (((cell_far (p := ⟨gb377, _, none⟩) NB386_377.out _).trans (((cell_far (p := ⟨gb377, _, none⟩) NB386_377.out _).trans (((cell_far (p := ⟨gb377, _, none⟩) NB386_377.out _).trans (((cell_far (p := ⟨gb377, _, none⟩) NB386_377.out _).trans (((cell_far (p := ⟨gb377, _, none⟩) NB386_377.out _).trans (((cell_far (p := ⟨gb377, _, none⟩) NB386_377.out _).trans (((cell_far (p := ⟨gb377, _, none⟩) NB386_377.out _).trans (hHeld.1)))))))))))))))), ((cell_far (p := ⟨gb377, _, none⟩) NB386_377.out _).trans (((cell_far (p := ⟨gb377, _, none⟩) NB386_377.out _).trans (((cell_far (p := ⟨gb377, _, none⟩) NB386_377.out _).trans (((cell_far (p := ⟨gb377, _, none⟩) NB386_377.out _).trans (((cell_far (p := ⟨gb377, _, none⟩) NB386_377.out _).trans (((cell_far (p := ⟨gb377, _, none⟩) NB386_377.out _).trans (((cell_far (p := ⟨gb377, _, none⟩) NB386_377.out _).trans (((cell_far (p := ⟨gb377, _, none⟩) NB386_377.out _).trans (hHeld.2.1)))))))))))))))), ((cell_far (p := ⟨gb377, _, none⟩) NB386_377.out _).trans (((cell_far (p := ⟨gb377, _, none⟩) NB386_377.out _).trans (((cell_far (p := ⟨gb377, _, none⟩) NB386_377.out _).trans (((cell_far (p := ⟨gb377, _, none⟩) NB386_377.out _).trans (((cell_far (p := ⟨gb377, _, none⟩) NB386_377.out _).trans (((cell_far (p := ⟨gb377, _, none⟩) NB386_377.out _).trans (((cell_far (p := ⟨gb377, _, none⟩) NB386_377.out _).trans (((cell_far (p := ⟨gb377, _, none⟩) NB386_377.out _).trans (hHeld.2.2))))))))))))))))⟩ (fun hHeld => ?_)
 clear hK K
 refine done_ (done_of HT_.out (by kernel_rfl)) ?_
 try go_wp2
 refine bodyPost_ret (results_cell_row rfl _ _ gb377 35 #[.int .i64 2, .int .i64 0, .int .i64 0, .int .i64 t380, .int .i64 t381, .slice Ao18 t382.length co18, .slice Ao25 t389.length co25, .slice Ao24 t395.length co24] (0, 0) _ rfl (blk_put (blk_put (blk_put (blk_put (blk_put (blk_put (blk_put (blk_put BK377.out 0 _ rfl) 1 _ rfl) 2 _ rfl) 3 _ rfl) 4 _ rfl) 5 _ rfl) 6 _ rfl) 7 _ rfl) Try.underlying35 rfl (by kernel_rfl)) rfl ?_
 exact ⟨_, _, _, ab11_, by (with_reducible repeat (first | apply Kd.N_alloc | apply Kd.N_drewN | apply Kd.N_drew)); exact Kd.N_mono (Kd.N_far (p := ⟨gb377, 7, none⟩) (Kd.N_far (p := ⟨gb377, 6, none⟩) (Kd.N_far (p := ⟨gb377, 5, none⟩) (Kd.N_far (p := ⟨gb377, 4, none⟩) (Kd.N_far (p := ⟨gb377, 3, none⟩) (Kd.N_far (p := ⟨gb377, 2, none⟩) (Kd.N_far (p := ⟨gb377, 1, none⟩) (Kd.N_far (p := ⟨gb377, 0, none⟩) (Kd.N_mono HO384.out (fun k_ hk => (⟨hk, hk.1.1.1.2.1⟩ : _ ∧ k_ ≠ gb377))) (fun _ hk => hk.2) (.int .i64 2)) (fun _ hk => hk.2) (.int .i64 0)) (fun _ hk => hk.2) (.int .i64 0)) (fun _ hk => hk.2) (.int .i64 t380)) (fun _ hk => hk.2) (.int .i64 t381)) (fun _ hk => hk.2) (.slice Ao18 t382.length co18)) (fun _ hk => hk.2) (.slice Ao25 t389.length co25)) (fun _ hk => hk.2) (.slice Ao24 t395.length co24)) (fun _ hk => ⟨hk.1.1.1.1.1, ⟨hk.1.1.2, hk.1.2⟩⟩), by (with_reducible repeat (first | apply Kd.N_alloc | apply Kd.N_drewN | apply Kd.N_drew)); exact Kd.N_mono (Kd.N_far (p := ⟨gb377, 7, none⟩) (Kd.N_far (p := ⟨gb377, 6, none⟩) (Kd.N_far (p := ⟨gb377, 5, none⟩) (Kd.N_far (p := ⟨gb377, 4, none⟩) (Kd.N_far (p := ⟨gb377, 3, none⟩) (Kd.N_far (p := ⟨gb377, 2, none⟩) (Kd.N_far (p := ⟨gb377, 1, none⟩) (Kd.N_far (p := ⟨gb377, 0, none⟩) (Kd.N_mono HO391.out (fun k_ hk => (⟨hk, hk.1.2.2.1⟩ : _ ∧ k_ ≠ gb377))) (fun _ hk => hk.2) (.int .i64 2)) (fun _ hk => hk.2) (.int .i64 0)) (fun _ hk => hk.2) (.int .i64 0)) (fun _ hk => hk.2) (.int .i64 t380)) (fun _ hk => hk.2) (.int .i64 t381)) (fun _ hk => hk.2) (.slice Ao18 t382.length co18)) (fun _ hk => hk.2) (.slice Ao25 t389.length co25)) (fun _ hk => hk.2) (.slice Ao24 t395.length co24)) (fun _ hk => ⟨hk.1.1.1, ⟨hk.1.1.2.1, hk.1.2⟩⟩), by (with_reducible repeat (first | apply Kd.N_alloc | apply Kd.N_drewN | apply Kd.N_drew)); exact Kd.N_mono (Kd.N_far (p := ⟨gb377, 7, none⟩) (Kd.N_far (p := ⟨gb377, 6, none⟩) (Kd.N_far (p := ⟨gb377, 5, none⟩) (Kd.N_far (p := ⟨gb377, 4, none⟩) (Kd.N_far (p := ⟨gb377, 3, none⟩) (Kd.N_far (p := ⟨gb377, 2, none⟩) (Kd.N_far (p := ⟨gb377, 1, none⟩) (Kd.N_far (p := ⟨gb377, 0, none⟩) (Kd.N_mono HO397.out (fun k_ hk => (⟨hk, hk.2.2.2.1⟩ : _ ∧ k_ ≠ gb377))) (fun _ hk => hk.2) (.int .i64 2)) (fun _ hk => hk.2) (.int .i64 0)) (fun _ hk => hk.2) (.int .i64 0)) (fun _ hk => hk.2) (.int .i64 t380)) (fun _ hk => hk.2) (.int .i64 t381)) (fun _ hk => hk.2) (.slice Ao18 t382.length co18)) (fun _ hk => hk.2) (.slice Ao25 t389.length co25)) (fun _ hk => hk.2) (.slice Ao24 t395.length co24)) (fun _ hk => ⟨hk.1.1, ⟨hk.1.2.1, hk.1.2.2.1⟩⟩), ab62_, by repeat (first | (with_reducible first | exact HB.out | apply below_alloc | apply pw_below_drewN | apply below_drew1 | refine below_set ?_ (IsS91.ge HI0.out) | refine below_set ?_ GE377.out | refine below_set ?_ GE386.out) | exact HB.out), ab36_⟩
theorem spec_l92Loop.calls_all (k : Nat) : spec_l92Loop.CallsAt k ∧ spec_l92Stmt.CallsAt k ∧ spec_l92Block.CallsAt k ∧ spec_l92If.CallsAt k := by
 induction k using Nat.strongRecOn with
 | _ k ih => exact ⟨spec_l92Loop.step k (ih_spec_l92Loop := fun m hm => (ih m hm).1) (ih_spec_l92Stmt := fun m hm => (ih m hm).2.1) (ih_spec_l92Block := fun m hm => (ih m hm).2.2.1) (ih_spec_l92If := fun m hm => (ih m hm).2.2.2), spec_l92Stmt.step k (ih_spec_l92Loop := fun m hm => (ih m hm).1) (ih_spec_l92Stmt := fun m hm => (ih m hm).2.1) (ih_spec_l92Block := fun m hm => (ih m hm).2.2.1) (ih_spec_l92If := fun m hm => (ih m hm).2.2.2), spec_l92Block.step k (ih_spec_l92Loop := fun m hm => (ih m hm).1) (ih_spec_l92Stmt := fun m hm => (ih m hm).2.1) (ih_spec_l92Block := fun m hm => (ih m hm).2.2.1) (ih_spec_l92If := fun m hm => (ih m hm).2.2.2), spec_l92If.step k (ih_spec_l92Loop := fun m hm => (ih m hm).1) (ih_spec_l92Stmt := fun m hm => (ih m hm).2.1) (ih_spec_l92Block := fun m hm => (ih m hm).2.2.1) (ih_spec_l92If := fun m hm => (ih m hm).2.2.2)⟩
theorem spec_l92Loop.calls (k : Nat) : spec_l92Loop.CallsAt k := (spec_l92Loop.calls_all k).1
theorem spec_l92Stmt.calls (k : Nat) : spec_l92Stmt.CallsAt k := (spec_l92Loop.calls_all k).2.1
theorem spec_l92Block.calls (k : Nat) : spec_l92Block.CallsAt k := (spec_l92Loop.calls_all k).2.2.1
theorem spec_l92If.calls (k : Nat) : spec_l92If.CallsAt k := (spec_l92Loop.calls_all k).2.2.2
theorem spec_l11Count.mono_l : ∀ k, (∀ y0, LeO (spec_l11Count.f k y0) (spec_l11Count.f (k + 1) y0)) ∧ (∀ y0 y1 y2, LeO (spec_l11Count.l0 k y0 y1 y2) (spec_l11Count.l0 (k + 1) y0 y1 y2))
 | 0 => ⟨fun _ r h => by simp [spec_l11Count.f] at h, fun _ _ _ r h => by simp [spec_l11Count.l0] at h⟩
 | k + 1 => by
  obtain ⟨ih0, ih1⟩ := spec_l11Count.mono_l k
  refine ⟨?_, ?_⟩
  ·intro y0
   unfold spec_l11Count.f
   repeat' first
   | (with_reducible exact ih0 _)
   | (with_reducible exact ih1 _ _ _)
   | (with_reducible exact LeO.refl _)
   | (with_reducible exact LeO.none _)
   | (with_reducible refine LeO.ite ?_ ?_)
   | (with_reducible refine LeO.bind ?_ (fun _ => ?_))
  ·intro y0 y1 y2
   unfold spec_l11Count.l0
   repeat' first
   | (with_reducible exact ih0 _)
   | (with_reducible exact ih1 _ _ _)
   | (with_reducible exact LeO.refl _)
   | (with_reducible exact LeO.none _)
   | (with_reducible refine LeO.ite ?_ ?_)
   | (with_reducible refine LeO.bind ?_ (fun _ => ?_))
theorem spec_l11Count.mono : ∀ a0 k, LeO (spec_l11Count.f k a0) (spec_l11Count.f (k + 1) a0) := by
 intro a0 k
 obtain ⟨ih0, ih1⟩ := spec_l11Count.mono_l k
 exact ih0 a0
def spec_l11Count.T5 : Bool × List (List Nat × List Nat) := (true, [([], []), ([0], [0]), ([], []), ([], []), ([2, 3], [2, 3]), ([4], [4]), ([5], [5]), ([6], [6]), ([1, 7], [1, 7]), ([], []), ([], []), ([9, 10], [9, 10]), ([11], [11]), ([12], [12]), ([13, 7], [13]), ([8, 14], [8, 14]), ([15, 14, 0, 1, 2, 3, 4, 5, 6, 7, 8, 9, 10, 11, 12, 13, 14, 15], [0, 15])])
def spec_l11Count.B5 : List Nat := [0, 1, 0, 0, 12, 28, 60, 124, 255, 0, 0, 1536, 3584, 7680, 16124, 32767, 65535]
theorem spec_l11Count.tab5 : rtab .any (opsOf Try.f80 5) = spec_l11Count.T5 := by kernel_rfl
theorem spec_l11Count.bits5 : waitsOk spec_l11Count.T5.2 spec_l11Count.B5 = true := by kernel_rfl
theorem spec_l11Count.calls (k : Nat) : ∀ (A0 : Option Addr) (c0 : Nat) (l0 : List (S35)) (r : Int) (w : World) (hr0 : Kd.C k35 w A0 l0.length l0) (hc0 : l0.length ≤ c0) (h : spec_l11Count.f k l0 = some r),
  Calls Try.prog 80 #[.slice A0 l0.length c0] w fun e w' => e = .returned (.int .i64 r) ∧ Below w.heap.size w w' := by
 induction k using Nat.strongRecOn with
 | _ k ih =>
 intro A0 c0 l0 r w hr0 hc0 h
 cases k with
 | zero => exact absurd h (by simp [spec_l11Count.f])
 | succ k =>
 simp only [spec_l11Count.f] at h
 have HR0 := am hr0
 have HC0 := am hc0
 clear hr0 hc0
 have HB := am (Below.refl w.heap.size w)
 have H : (spec_l11Count.l0 k l0 0 0) = some r := h
 clear h
 have H' := am H
 clear H
 go_enter Try.func80, Try.ntmps80
 go_wp2
 go_loopg [3, 4] k (fun kq v3 v4 w' => ∃ (x3_1 : Int) (x4_1 : Int), v3 = .int .i64 x3_1 ∧ v4 = .int .i64 x4_1 ∧ Aside0 (spec_l11Count.l0 kq l0 x3_1 x4_1 = some r) ∧ Aside0 (kq ≤ k) ∧ Aside0 (Below w.heap.size w w'))
 case atStart => exact ⟨(0), (0), sd_, sd_, H', ⟨Nat.le_refl _⟩, ⟨ab2_⟩⟩
 case round =>
  clear H'
  obtain ⟨x3_1, x4_1, rfl, rfl, HA, HK1, HB⟩ := hrel
  cases gk with
  | zero => exact absurd HA.out (by simp [spec_l11Count.l0])
  | succ k1 =>
   have H := HA.out
   clear HA
   simp only [spec_l11Count.l0] at H
   by_cases c2 : x4_1 < (l0.length : Int)
   ·rw [if_pos c2] at H
    have c2b0 : decide (x4_1 < (l0.length : Int)) = true := decide_eq_true c2
    clear c2
    by_cases c3 : 0 ≤ x4_1
    ·rw [if_pos c3] at H
     have c3b0 : decide (0 ≤ x4_1) = true := decide_eq_true c3
     clear c3
     obtain ⟨t400, A40, H⟩ := bsm H
     (try dsimp only at H)
     have A4 := am A40
     clear A40
     obtain ⟨t402, A50, H⟩ := bsm H
     (try dsimp only at H)
     have A5 := am A50
     clear A50
     have H' := am H
     clear H
     try go_wp2
     replace HB := am (below_drew1 HB.out)
     have p399 : 0 ≤ (x4_1 : Int) := of_decide_eq_true asm_
     have q399 : x4_1 < (l0.length : Int) := of_decide_eq_true asm_
     obtain ⟨ad399, A399_5, c399_5, A399_6, c399_6, A399_7, c399_7, e399, hx399_0, hx399_1, hx399_2, hx399_3, hx399_4, hx399_5, hx399_6, hx399_7, hl399_5, hi399_5, hl399_6, hi399_6, hl399_7, hi399_7⟩ := at_T35 HR0.out x4_1 p399 q399
     have hw399_7 := hx399_7
     have hw399_6 := hx399_6
     have hw399_5 := hx399_5
     have hw399_4 := hx399_4
     have hw399_3 := hx399_3
     have hw399_2 := hx399_2
     have hw399_1 := hx399_1
     have hw399_0 := hx399_0
     cases e399
     replace hx399_0 := (HB.out.cell (World.block_lt_of_cell? w _ hx399_0)).trans hx399_0
     replace hx399_1 := (HB.out.cell (World.block_lt_of_cell? w _ hx399_1)).trans hx399_1
     replace hx399_2 := (HB.out.cell (World.block_lt_of_cell? w _ hx399_2)).trans hx399_2
     replace hx399_3 := (HB.out.cell (World.block_lt_of_cell? w _ hx399_3)).trans hx399_3
     replace hx399_4 := (HB.out.cell (World.block_lt_of_cell? w _ hx399_4)).trans hx399_4
     replace hx399_5 := (HB.out.cell (World.block_lt_of_cell? w _ hx399_5)).trans hx399_5
     replace hx399_6 := (HB.out.cell (World.block_lt_of_cell? w _ hx399_6)).trans hx399_6
     replace hx399_7 := (HB.out.cell (World.block_lt_of_cell? w _ hx399_7)).trans hx399_7
     have HR399_5 := am hi399_5
     have HC399_5 := am hl399_5
     clear hi399_5 hl399_5
     have HR399_6 := am hi399_6
     have HC399_6 := am hl399_6
     clear hi399_6 hl399_6
     have HR399_7 := am hi399_7
     have HC399_7 := am hl399_7
     clear hi399_7 hl399_7
     replace p399 := eq_true p399
     replace q399 := eq_true q399
     have p401 : 0 ≤ (x4_1 : Int) := of_decide_eq_true asm_
     have q401 : x4_1 < (l0.length : Int) := of_decide_eq_true asm_
     obtain ⟨ad401, A401_5, c401_5, A401_6, c401_6, A401_7, c401_7, e401, hx401_0, hx401_1, hx401_2, hx401_3, hx401_4, hx401_5, hx401_6, hx401_7, hl401_5, hi401_5, hl401_6, hi401_6, hl401_7, hi401_7⟩ := at_T35 HR0.out x4_1 p401 q401
     have hw401_7 := hx401_7
     have hw401_6 := hx401_6
     have hw401_5 := hx401_5
     have hw401_4 := hx401_4
     have hw401_3 := hx401_3
     have hw401_2 := hx401_2
     have hw401_1 := hx401_1
     have hw401_0 := hx401_0
     obtain rfl : ad399 = ad401 := (by injection e401)
     replace hx401_0 := (HB.out.cell (World.block_lt_of_cell? w _ hx401_0)).trans hx401_0
     replace hx401_1 := (HB.out.cell (World.block_lt_of_cell? w _ hx401_1)).trans hx401_1
     replace hx401_2 := (HB.out.cell (World.block_lt_of_cell? w _ hx401_2)).trans hx401_2
     replace hx401_3 := (HB.out.cell (World.block_lt_of_cell? w _ hx401_3)).trans hx401_3
     replace hx401_4 := (HB.out.cell (World.block_lt_of_cell? w _ hx401_4)).trans hx401_4
     replace hx401_5 := (HB.out.cell (World.block_lt_of_cell? w _ hx401_5)).trans hx401_5
     replace hx401_6 := (HB.out.cell (World.block_lt_of_cell? w _ hx401_6)).trans hx401_6
     replace hx401_7 := (HB.out.cell (World.block_lt_of_cell? w _ hx401_7)).trans hx401_7
     have HR401_5 := am hi401_5
     have HC401_5 := am hl401_5
     clear hi401_5 hl401_5
     have HR401_6 := am hi401_6
     have HC401_6 := am hl401_6
     clear hi401_6 hl401_6
     have HR401_7 := am hi401_7
     have HC401_7 := am hl401_7
     clear hi401_7 hl401_7
     replace p401 := eq_true p401
     replace q401 := eq_true q401
     have ea_ := Option.some.inj (hx399_5.symm.trans hx401_5)
     injection ea_ with ea_ en_ ec_
     subst ea_
     subst ec_
     clear en_
     have ea_ := Option.some.inj (hx399_6.symm.trans hx401_6)
     injection ea_ with ea_ en_ ec_
     subst ea_
     subst ec_
     clear en_
     have ea_ := Option.some.inj (hx399_7.symm.trans hx401_7)
     injection ea_ with ea_ en_ ec_
     subst ea_
     subst ec_
     clear en_
     refine start_ (n := 17) (S := fun w' => w'.cell? (ad399.add ((x4_1).toNat * 8)) = some (.int .i64 ((rd_T35 l0 x4_1).f0)) ∧ w'.cell? ⟨(ad399.add ((x4_1).toNat * 8)).block, (ad399.add ((x4_1).toNat * 8)).off + 1, none⟩ = some (.int .i64 ((rd_T35 l0 x4_1).f1)) ∧ w'.cell? ⟨(ad399.add ((x4_1).toNat * 8)).block, (ad399.add ((x4_1).toNat * 8)).off + 2, none⟩ = some (.int .i64 ((rd_T35 l0 x4_1).f2)) ∧ w'.cell? ⟨(ad399.add ((x4_1).toNat * 8)).block, (ad399.add ((x4_1).toNat * 8)).off + 3, none⟩ = some (.int .i64 ((rd_T35 l0 x4_1).f3.f0)) ∧ w'.cell? ⟨(ad399.add ((x4_1).toNat * 8)).block, (ad399.add ((x4_1).toNat * 8)).off + 4, none⟩ = some (.int .i64 ((rd_T35 l0 x4_1).f3.f1)) ∧ w'.cell? ⟨(ad399.add ((x4_1).toNat * 8)).block, (ad399.add ((x4_1).toNat * 8)).off + 5, none⟩ = some (.slice A399_5 ((rd_T35 l0 x4_1).f3.f2).length c399_5) ∧ w'.cell? ⟨(ad399.add ((x4_1).toNat * 8)).block, (ad399.add ((x4_1).toNat * 8)).off + 6, none⟩ = some (.slice A399_6 ((rd_T35 l0 x4_1).f4).length c399_6) ∧ w'.cell? ⟨(ad399.add ((x4_1).toNat * 8)).block, (ad399.add ((x4_1).toNat * 8)).off + 7, none⟩ = some (.slice A399_7 ((rd_T35 l0 x4_1).f5).length c399_7) ∧ w'.cell? (ad399.add ((x4_1).toNat * 8)) = some (.int .i64 ((rd_T35 l0 x4_1).f0)) ∧ w'.cell? ⟨(ad399.add ((x4_1).toNat * 8)).block, (ad399.add ((x4_1).toNat * 8)).off + 1, none⟩ = some (.int .i64 ((rd_T35 l0 x4_1).f1)) ∧ w'.cell? ⟨(ad399.add ((x4_1).toNat * 8)).block, (ad399.add ((x4_1).toNat * 8)).off + 2, none⟩ = some (.int .i64 ((rd_T35 l0 x4_1).f2)) ∧ w'.cell? ⟨(ad399.add ((x4_1).toNat * 8)).block, (ad399.add ((x4_1).toNat * 8)).off + 3, none⟩ = some (.int .i64 ((rd_T35 l0 x4_1).f3.f0)) ∧ w'.cell? ⟨(ad399.add ((x4_1).toNat * 8)).block, (ad399.add ((x4_1).toNat * 8)).off + 4, none⟩ = some (.int .i64 ((rd_T35 l0 x4_1).f3.f1)) ∧ w'.cell? ⟨(ad399.add ((x4_1).toNat * 8)).block, (ad399.add ((x4_1).toNat * 8)).off + 5, none⟩ = some (.slice A399_5 ((rd_T35 l0 x4_1).f3.f2).length c399_5) ∧ w'.cell? ⟨(ad399.add ((x4_1).toNat * 8)).block, (ad399.add ((x4_1).toNat * 8)).off + 6, none⟩ = some (.slice A399_6 ((rd_T35 l0 x4_1).f4).length c399_6) ∧ w'.cell? ⟨(ad399.add ((x4_1).toNat * 8)).block, (ad399.add ((x4_1).toNat * 8)).off + 7, none⟩ = some (.slice A399_7 ((rd_T35 l0 x4_1).f5).length c399_7)) (ds := []) #[false, false, false, false, false, false, false, false, false, false, false, false, false, false, false, false, false] (by kernel_rfl) rfl rfl ⟨((HB.out.cell (World.block_lt_of_cell? w _ hw399_0)).trans hw399_0), ((HB.out.cell (World.block_lt_of_cell? w _ hw399_1)).trans hw399_1), ((HB.out.cell (World.block_lt_of_cell? w _ hw399_2)).trans hw399_2), ((HB.out.cell (World.block_lt_of_cell? w _ hw399_3)).trans hw399_3), ((HB.out.cell (World.block_lt_of_cell? w _ hw399_4)).trans hw399_4), ((HB.out.cell (World.block_lt_of_cell? w _ hw399_5)).trans hw399_5), ((HB.out.cell (World.block_lt_of_cell? w _ hw399_6)).trans hw399_6), ((HB.out.cell (World.block_lt_of_cell? w _ hw399_7)).trans hw399_7), ((HB.out.cell (World.block_lt_of_cell? w _ hw401_0)).trans hw401_0), ((HB.out.cell (World.block_lt_of_cell? w _ hw401_1)).trans hw401_1), ((HB.out.cell (World.block_lt_of_cell? w _ hw401_2)).trans hw401_2), ((HB.out.cell (World.block_lt_of_cell? w _ hw401_3)).trans hw401_3), ((HB.out.cell (World.block_lt_of_cell? w _ hw401_4)).trans hw401_4), ((HB.out.cell (World.block_lt_of_cell? w _ hw401_5)).trans hw401_5), ((HB.out.cell (World.block_lt_of_cell? w _ hw401_6)).trans hw401_6), ((HB.out.cell (World.block_lt_of_cell? w _ hw401_7)).trans hw401_7)⟩ (fun hHeld => ?_); refine with_tabW spec_l11Count.tab5 spec_l11Count.bits5 (fun HT_ HW_ => ?_)
     generalize wr.drew = w6 at HB HR399_5 HR399_6 HR399_7 HR401_5 HR401_6 HR401_7 hx399_0 hx399_1 hx399_2 hx399_3 hx399_4 hx399_5 hx399_6 hx399_7 hx401_0 hx401_1 hx401_2 hx401_3 hx401_4 hx401_5 hx401_6 hx401_7 hHeld ⊢
     refine pure_ (i := 0) (N := some 11) (v := ?_) (a' := ?_) #[true, false, false, false, false, false, false, false, false, false, false, false, false, false, false, false, false] rfl rfl (any_of HT_.out (by kernel_rfl)) (fun _ _ _ h => h) (Or.inl ⟨by rfl, ?_⟩) ?_ ?_
     rotate_left
     ·intro w'
      go_simp
      with_reducible rfl
     rotate_left
     ·simp only [Act.put, List.setIfInBounds_toArray, List.set_cons_zero, List.set_cons_succ, i64_w, i32_w]
      rfl
     refine pure_ (i := 1) (N := some 12) (v := ?_) (a' := ?_) #[true, true, false, false, false, false, false, false, false, false, false, false, false, false, false, false, false] rfl rfl (any_of HT_.out (by kernel_rfl)) (fun _ _ _ h => h) (Or.inl ⟨by rfl, ?_⟩) ?_ ?_
     rotate_left
     ·intro w'
      go_simp
      with_reducible rfl
     rotate_left
     ·simp only [Act.put, List.setIfInBounds_toArray, List.set_cons_zero, List.set_cons_succ, i64_w, i32_w]
      rfl
     refine pure_ (i := 2) (N := some 13) (v := ?_) (a' := ?_) #[true, true, true, false, false, false, false, false, false, false, false, false, false, false, false, false, false] rfl rfl (any_of HT_.out (by kernel_rfl)) (fun _ _ _ h => h) (Or.inl ⟨by rfl, ?_⟩) ?_ ?_
     rotate_left
     ·intro w'
      go_simp
      with_reducible rfl
     rotate_left
     ·simp only [Act.put, List.setIfInBounds_toArray, List.set_cons_zero, List.set_cons_succ, i64_w, i32_w]
      rfl
     refine pure_ (i := 3) (N := some 14) (v := ?_) (a' := ?_) #[true, true, true, true, false, false, false, false, false, false, false, false, false, false, false, false, false] rfl rfl (any_of HT_.out (by kernel_rfl)) (fun _ _ _ h => h) (Or.inl ⟨by rfl, ?_⟩) ?_ ?_
     rotate_left
     ·intro w'
      go_simp
      with_reducible rfl
     rotate_left
     ·simp only [Act.put, List.setIfInBounds_toArray, List.set_cons_zero, List.set_cons_succ, i64_w, i32_w]
      rfl
     refine pure_ (i := 4) (N := some 15) (v := ?_) (a' := ?_) #[true, true, true, true, true, false, false, false, false, false, false, false, false, false, false, false, false] rfl rfl (any_of HT_.out (by kernel_rfl)) (fun _ _ _ h => h) (Or.inl ⟨by rfl, ?_⟩) ?_ ?_
     rotate_left
     ·intro w'
      go_simp
      with_reducible rfl
     rotate_left
     ·simp only [Act.put, List.setIfInBounds_toArray, List.set_cons_zero, List.set_cons_succ, i64_w, i32_w]
      rfl
     refine pure_ (i := 5) (N := some 16) (v := ?_) (a' := ?_) #[true, true, true, true, true, true, false, false, false, false, false, false, false, false, false, false, false] rfl rfl (any_of HT_.out (by kernel_rfl)) (fun _ _ _ h => h) (Or.inl ⟨by rfl, ?_⟩) ?_ ?_
     rotate_left
     ·intro w'
      go_simp
      with_reducible rfl
     rotate_left
     ·simp only [Act.put, List.setIfInBounds_toArray, List.set_cons_zero, List.set_cons_succ, i64_w, i32_w]
      rfl
     refine pure_ (i := 9) (N := some 20) (v := ?_) (a' := ?_) #[true, true, true, true, true, true, false, false, false, true, false, false, false, false, false, false, false] rfl rfl (any_of HT_.out (by kernel_rfl)) (fun _ _ _ h => h) (Or.inl ⟨by rfl, ?_⟩) ?_ ?_
     rotate_left
     ·intro w'
      go_simp
      with_reducible rfl
     rotate_left
     ·simp only [Act.put, List.setIfInBounds_toArray, List.set_cons_zero, List.set_cons_succ, i64_w, i32_w]
      rfl
     refine pure_ (i := 10) (N := some 21) (v := ?_) (a' := ?_) #[true, true, true, true, true, true, false, false, false, true, true, false, false, false, false, false, false] rfl rfl (any_of HT_.out (by kernel_rfl)) (fun _ _ _ h => h) (Or.inl ⟨by rfl, ?_⟩) ?_ ?_
     rotate_left
     ·intro w'
      go_simp
      with_reducible rfl
     rotate_left
     ·simp only [Act.put, List.setIfInBounds_toArray, List.set_cons_zero, List.set_cons_succ, i64_w, i32_w]
      rfl
     refine pure_ (i := 11) (N := some 22) (v := ?_) (a' := ?_) #[true, true, true, true, true, true, false, false, false, true, true, true, false, false, false, false, false] rfl rfl (any_of HT_.out (by kernel_rfl)) (fun _ _ _ h => h) (Or.inl ⟨by rfl, ?_⟩) ?_ ?_
     rotate_left
     ·intro w'
      go_simp
      with_reducible rfl
     rotate_left
     ·simp only [Act.put, List.setIfInBounds_toArray, List.set_cons_zero, List.set_cons_succ, i64_w, i32_w]
      rfl
     refine pure_ (i := 12) (N := some 23) (v := ?_) (a' := ?_) #[true, true, true, true, true, true, false, false, false, true, true, true, true, false, false, false, false] rfl rfl (any_of HT_.out (by kernel_rfl)) (fun _ _ _ h => h) (Or.inl ⟨by rfl, ?_⟩) ?_ ?_
     rotate_left
     ·intro w'
      go_simp
      with_reducible rfl
     rotate_left
     ·simp only [Act.put, List.setIfInBounds_toArray, List.set_cons_zero, List.set_cons_succ, i64_w, i32_w]
      rfl
     refine take_ (i := 6) (N := some 17) (v := ?_) (a' := ?_) #[true, true, true, true, true, true, true, false, false, true, true, true, true, false, false, false, false] rfl rfl (take_ofW HT_.out HW_.out (by kernel_rfl)) (fun _ _ _ h => h) (Or.inl ⟨by rfl, ?_⟩) hHeld ?_ ?_
     rotate_left
     ·rintro w' ⟨s0, s1, s2, s3, s4, s5, s6, s7, s8, s9, s10, s11, s12, s13, s14, s15⟩
      go_simp
      with_reducible rfl
     rotate_left
     ·simp only [Act.put, List.setIfInBounds_toArray, List.set_cons_zero, List.set_cons_succ, i64_w, i32_w]
      rfl
     refine take_ (i := 13) (N := some 24) (v := ?_) (a' := ?_) #[true, true, true, true, true, true, true, false, false, true, true, true, true, true, false, false, false] rfl rfl (take_ofW HT_.out HW_.out (by kernel_rfl)) (fun _ _ _ h => h) (Or.inl ⟨by rfl, ?_⟩) hHeld ?_ ?_
     rotate_left
     ·rintro w' ⟨s0, s1, s2, s3, s4, s5, s6, s7, s8, s9, s10, s11, s12, s13, s14, s15⟩
      go_simp
      with_reducible rfl
     rotate_left
     ·simp only [Act.put, List.setIfInBounds_toArray, List.set_cons_zero, List.set_cons_succ, i64_w, i32_w]
      rfl
     refine one_ (i := 7) (N := some 18) #[true, true, true, true, true, true, true, true, false, true, true, true, true, true, false, false, false] rfl rfl (one_of HT_.out (by kernel_rfl)) (by decide) (fun K hK => ?_)
     refine goes_ Try.func80 (by kernel_rfl) rfl #[.slice A399_6 ((rd_T35 l0 x4_1).f4).length c399_6] (by rfl) rfl rfl ab1_ ?_
     with_reducible refine (ih k1 (by have := HK1.out; omega) _ _ ((rd_T35 l0 x4_1).f4) t400 _ (aC_ (Kd.C_below HR399_6.out HB.out)) HC399_6.out A4.out).mono ?_
     rintro e w7 ⟨rfl, hb⟩
     refine ⟨_, rfl, ?_⟩
     replace HB := am (below_step ab2_ hb)
     (try clear hb)
     (try clear hb2)
     (try clear hk)
     (try clear hi)
     refine hK.out _ _ ⟨((HB.out.cell (World.block_lt_of_cell? w _ hw399_0)).trans hw399_0), ((HB.out.cell (World.block_lt_of_cell? w _ hw399_1)).trans hw399_1), ((HB.out.cell (World.block_lt_of_cell? w _ hw399_2)).trans hw399_2), ((HB.out.cell (World.block_lt_of_cell? w _ hw399_3)).trans hw399_3), ((HB.out.cell (World.block_lt_of_cell? w _ hw399_4)).trans hw399_4), ((HB.out.cell (World.block_lt_of_cell? w _ hw399_5)).trans hw399_5), ((HB.out.cell (World.block_lt_of_cell? w _ hw399_6)).trans hw399_6), ((HB.out.cell (World.block_lt_of_cell? w _ hw399_7)).trans hw399_7), ((HB.out.cell (World.block_lt_of_cell? w _ hw401_0)).trans hw401_0), ((HB.out.cell (World.block_lt_of_cell? w _ hw401_1)).trans hw401_1), ((HB.out.cell (World.block_lt_of_cell? w _ hw401_2)).trans hw401_2), ((HB.out.cell (World.block_lt_of_cell? w _ hw401_3)).trans hw401_3), ((HB.out.cell (World.block_lt_of_cell? w _ hw401_4)).trans hw401_4), ((HB.out.cell (World.block_lt_of_cell? w _ hw401_5)).trans hw401_5), ((HB.out.cell (World.block_lt_of_cell? w _ hw401_6)).trans hw401_6), ((HB.out.cell (World.block_lt_of_cell? w _ hw401_7)).trans hw401_7)⟩ (fun hHeld => ?_)
     clear hK K
     refine norm_ (a' := ?_) ?_ ?_
     rotate_left
     ·show Act.put _ (some 18) _ = _
      simp only [Act.put, List.setIfInBounds_toArray, List.set_cons_zero, List.set_cons_succ, i64_w, i32_w]
      rfl
     refine pure_ (i := 8) (N := some 19) (v := ?_) (a' := ?_) #[true, true, true, true, true, true, true, true, true, true, true, true, true, true, false, false, false] rfl rfl (any_of HT_.out (by kernel_rfl)) (fun _ _ _ h => h) (Or.inl ⟨by rfl, ?_⟩) ?_ ?_
     rotate_left
     ·intro w'
      go_simp
      with_reducible rfl
     rotate_left
     ·simp only [Act.put, List.setIfInBounds_toArray, List.set_cons_zero, List.set_cons_succ, i64_w, i32_w]
      rfl
     refine one_ (i := 14) (N := some 25) #[true, true, true, true, true, true, true, true, true, true, true, true, true, true, true, false, false] rfl rfl (one_of HT_.out (by kernel_rfl)) (by decide) (fun K hK => ?_)
     refine goes_ Try.func80 (by kernel_rfl) rfl #[.slice A399_7 ((rd_T35 l0 x4_1).f5).length c399_7] (by rfl) rfl rfl ab1_ ?_
     with_reducible refine (ih k1 (by have := HK1.out; omega) _ _ ((rd_T35 l0 x4_1).f5) t402 _ (aC_ (Kd.C_below HR401_7.out HB.out)) HC401_7.out A5.out).mono ?_
     rintro e w8 ⟨rfl, hb⟩
     refine ⟨_, rfl, ?_⟩
     replace HB := am (below_step ab2_ hb)
     (try clear hb)
     (try clear hb2)
     (try clear hk)
     (try clear hi)
     refine hK.out _ _ ⟨((HB.out.cell (World.block_lt_of_cell? w _ hw399_0)).trans hw399_0), ((HB.out.cell (World.block_lt_of_cell? w _ hw399_1)).trans hw399_1), ((HB.out.cell (World.block_lt_of_cell? w _ hw399_2)).trans hw399_2), ((HB.out.cell (World.block_lt_of_cell? w _ hw399_3)).trans hw399_3), ((HB.out.cell (World.block_lt_of_cell? w _ hw399_4)).trans hw399_4), ((HB.out.cell (World.block_lt_of_cell? w _ hw399_5)).trans hw399_5), ((HB.out.cell (World.block_lt_of_cell? w _ hw399_6)).trans hw399_6), ((HB.out.cell (World.block_lt_of_cell? w _ hw399_7)).trans hw399_7), ((HB.out.cell (World.block_lt_of_cell? w _ hw401_0)).trans hw401_0), ((HB.out.cell (World.block_lt_of_cell? w _ hw401_1)).trans hw401_1), ((HB.out.cell (World.block_lt_of_cell? w _ hw401_2)).trans hw401_2), ((HB.out.cell (World.block_lt_of_cell? w _ hw401_3)).trans hw401_3), ((HB.out.cell (World.block_lt_of_cell? w _ hw401_4)).trans hw401_4), ((HB.out.cell (World.block_lt_of_cell? w _ hw401_5)).trans hw401_5), ((HB.out.cell (World.block_lt_of_cell? w _ hw401_6)).trans hw401_6), ((HB.out.cell (World.block_lt_of_cell? w _ hw401_7)).trans hw401_7)⟩ (fun hHeld => ?_)
     clear hK K
     refine norm_ (a' := ?_) ?_ ?_
     rotate_left
     ·show Act.put _ (some 25) _ = _
      simp only [Act.put, List.setIfInBounds_toArray, List.set_cons_zero, List.set_cons_succ, i64_w, i32_w]
      rfl
     refine pure_ (i := 15) (N := some 26) (v := ?_) (a' := ?_) #[true, true, true, true, true, true, true, true, true, true, true, true, true, true, true, true, false] rfl rfl (any_of HT_.out (by kernel_rfl)) (fun _ _ _ h => h) (Or.inl ⟨by rfl, ?_⟩) ?_ ?_
     rotate_left
     ·intro w'
      go_simp
      with_reducible rfl
     rotate_left
     ·simp only [Act.put, List.setIfInBounds_toArray, List.set_cons_zero, List.set_cons_succ, i64_w, i32_w]
      rfl
     refine pure_ (i := 16) (N := some 3) (v := ?_) (a' := ?_) #[true, true, true, true, true, true, true, true, true, true, true, true, true, true, true, true, true] rfl rfl (any_of HT_.out (by kernel_rfl)) (fun _ _ _ h => h) (Or.inl ⟨by rfl, ?_⟩) ?_ ?_
     rotate_left
     ·intro w'
      go_simp
      with_reducible rfl
     rotate_left
     ·simp only [Act.put, List.setIfInBounds_toArray, List.set_cons_zero, List.set_cons_succ, i64_w, i32_w]
      rfl
     refine done_ (done_of HT_.out (by kernel_rfl)) ?_
     try go_wp2
     go_roundg k1
     case measure => have := HK1.out; omega
     case rel => exact ⟨(wrap64 ((wrap64 ((wrap64 (x3_1 + 1)) + t400)) + t402)), (wrap64 (x4_1 + 1)), sd_, sd_, H', ⟨by have := HK1.out; omega⟩, ⟨ab2_⟩⟩
    rw [if_neg c3] at H
    exact absurd H (by simp)
   rw [if_neg c2] at H
   have c2b0 : decide (x4_1 < (l0.length : Int)) = false := decide_eq_false c2
   clear c2
   obtain rfl := Option.some.inj H
   go_wp2
   go_ret
   exact ⟨rr_, ab2_⟩
theorem spec_l92Stmts.mono_l : ∀ k, (∀ y0 y1 y2, LeO (spec_l92Stmts.l0 k y0 y1 y2) (spec_l92Stmts.l0 (k + 1) y0 y1 y2))
 | 0 => fun _ _ _ r h => by simp [spec_l92Stmts.l0] at h
 | k + 1 => by
  have ih0 := spec_l92Stmts.mono_l k
  ·intro y0 y1 y2
   unfold spec_l92Stmts.l0
   repeat' first
   | (with_reducible exact ih0 _ _ _)
   | (with_reducible exact spec_l11Count.mono _ _)
   | (with_reducible exact spec_l6Rd_pick.mono _ _ _ _)
   | (with_reducible exact spec_l92Block.mono _ _ _ _ _ _ _)
   | (with_reducible exact LeO.refl _)
   | (with_reducible exact LeO.none _)
   | (with_reducible refine LeO.ite ?_ ?_)
   | (with_reducible refine LeO.bind ?_ (fun _ => ?_))
theorem spec_l92Stmts.mono : ∀ a0 a1 a2 k, LeO (spec_l92Stmts.f k a0 a1 a2) (spec_l92Stmts.f (k + 1) a0 a1 a2) := by
 intro a0 a1 a2 k
 have ih0 := spec_l92Stmts.mono_l k
 unfold spec_l92Stmts.f
 repeat' first
   | (with_reducible exact ih0 _ _ _)
   | (with_reducible exact spec_l11Count.mono _ _)
   | (with_reducible exact spec_l6Rd_pick.mono _ _ _ _)
   | (with_reducible exact spec_l92Block.mono _ _ _ _ _ _ _)
   | (with_reducible exact LeO.refl _)
   | (with_reducible exact LeO.none _)
   | (with_reducible refine LeO.ite ?_ ?_)
   | (with_reducible refine LeO.bind ?_ (fun _ => ?_))
theorem spec_l92Stmts.calls (k : Nat) (g : Nat) (s0_0 : List Int) (s0_1 : Int) (a1 : Int) (r1 : List (S35)) (r2 : Int) (w0 w : World) (hI : IsS91 w0 w g s0_0 s0_1) (hB : Below w0.heap.size w0 w) (h : spec_l92Stmts.f k s0_0 s0_1 a1 = some (r1, r2)) :
  Calls Try.prog 73 #[.pointer (some ⟨g, 0, none⟩), .int .i64 a1] w fun e w' => ∃ v0_ : Value, e = .returned (v0_) ∧ Kd.N k35 35 w' w.heap.size (fun k_ => (w.heap.size ≤ k_)) v0_ r1 ∧ IsS91 w0 w' g s0_0 r2 ∧ Below w0.heap.size w0 w' ∧ KeepBut w w' g none := by
 have HI0 := am hI
 have HK := am (KeepBut.refl w g none)
 have HL := am hB.size
 clear hI
 have HW0 := am hB.size
 have HB := am hB
 clear hB
 have H : ((spec_l6Rd_pick.f k s0_0 s0_1 6).bind fun bt403 => ((spec_l92Block.f k s0_0 bt403.2 a1 3 (wrap64 (1 + bt403.1)) true).bind fun bt405 => (spec_l92Stmts.l0 k bt405.1 s0_0 bt405.2))) = some (r1, r2) := h
 clear h
 obtain ⟨⟨t403, t404⟩, A30, H⟩ := bsm H
 (try dsimp only at H)
 have A3 := am A30
 clear A30
 obtain ⟨⟨t405, t408⟩, A40, H⟩ := bsm H
 (try dsimp only at H)
 have A4 := am A40
 clear A40
 have H' := am H
 clear H
 go_enter Try.func73, Try.ntmps73
 go_wp2_with (first | ((with_reducible refine gate_callee (f := 41) rfl ?_); refine goesL_ (some 9) rfl rfl Try.func41 (by kernel_rfl) rfl #[.pointer (some ⟨g, 0, none⟩), .int .i64 6] rfl ab1_ ?_; (with_reducible refine (spec_l6Rd_pick.calls k g s0_0 s0_1 6 t403 t404 w0 _ ?side1 ?side2 A3.out).mono ?_); (case side1 => exact ab4_); (case side2 => exact ab5_); rintro e w5 ⟨rfl, hi, hb, hk⟩; refine ⟨_, rfl, ?_⟩; replace HK := am (KeepBut.trans ab3_ hk (.inl rfl)); replace HB := am (hb); replace HI0 := am (hi); (try clear hb); (try clear hb2); (try clear hk); (try clear hi)) | ((with_reducible refine gate_callee (f := 77) rfl ?_); refine goesL_ (some 11) rfl rfl Try.func77 (by kernel_rfl) rfl #[.pointer (some ⟨g, 0, none⟩), .int .i64 a1, .int .i64 3, .int .i64 (wrap64 (1 + t403)), .bool true] rfl ab1_ ?_; (with_reducible refine (spec_l92Block.calls k g s0_0 t404 a1 3 (wrap64 (1 + t403)) true t405 t408 w0 _ ?side1 ?side2 A4.out).mono ?_); (case side1 => exact ab4_); (case side2 => exact ab5_); rintro e w6 ⟨v406, rfl, ho0, hi, hb, hk⟩; refine ⟨_, rfl, ?_⟩; have HO407 := am (Kd.N_lower (Kd.N_mono (ok' := fun k_ => (w.heap.size ≤ k_) ∧ k_ ≠ g) ho0 (fun k_ hk_ => ⟨(Nat.le_trans (keep_size (w := w) (g := g) (row := none) ab3_) hk_), (IsS91.fresh ab4_ k_ hk_)⟩)) (keep_size (w := w) (g := g) (row := none) ab3_)); replace HK := am (KeepBut.trans ab3_ hk (.inl rfl)); replace HB := am (hb); replace HI0 := am (hi); (try clear hb); (try clear hb2); (try clear hk); (try clear hi); (try clear ho0)))
 go_loopg [5] k (fun kq v5 w' => ∃ (x5_1 : List (S35)), Aside0 (spec_l92Stmts.l0 kq x5_1 s0_0 t408 = some (r1, r2)) ∧ Aside0 (kq ≤ k) ∧ Aside0 (Kd.N k35 35 w' w.heap.size (fun k_ => (w.heap.size ≤ k_) ∧ k_ ≠ g) v5 x5_1) ∧ Aside0 (IsS91 w0 w' g s0_0 t408) ∧ Aside0 (KeepBut w w' g none) ∧ Aside0 (Below w0.heap.size w0 w'))
 case atStart => exact ⟨(t405), H', ⟨Nat.le_refl _⟩, ⟨by (with_reducible repeat (first | apply Kd.N_alloc | apply Kd.N_drewN | apply Kd.N_drew)); exact HO407.out⟩, ⟨ab4_⟩, ⟨ab3_⟩, ⟨ab5_⟩⟩
 case round =>
  clear H'
  obtain ⟨x5_1, HA, HK1, HO_5, HI0, HK, HB⟩ := hrel
  cases gk with
  | zero => exact absurd HA.out (by simp [spec_l92Stmts.l0])
  | succ k1 =>
   have H := HA.out
   clear HA
   simp only [spec_l92Stmts.l0] at H
   obtain ⟨t409, A70, H⟩ := bsm H
   (try dsimp only at H)
   have A7 := am A70
   clear A70
   by_cases c8 : t409 > 16
   ·rw [if_pos c8] at H
    have c8b0 : decide (16 < t409) = true := decide_eq_true c8
    clear c8
    obtain ⟨ji9, hji9⟩ : ∃ j_ : Int, (wrap64 ((x5_1.length : Int) - 1)) = j_ := ⟨_, rfl⟩
    replace H : (if 0 ≤ (ji9) then (if (ji9) ≤ (x5_1.length : Int) then (spec_l92Stmts.l0 k1 (x5_1.take ((ji9) : Int).toNat) s0_0 t408) else (none)) else (none)) = some (r1, r2) := by first | (rw [hji9] at H; exact H) | (simp only [hji9] at H ⊢; exact H)
    (try rw [hji9] at A7)
    have hji9w : (IntKind.i64.wrap ((x5_1.length : Int) - 1)) = ji9 := (i64_w _).trans hji9
    by_cases c10 : 0 ≤ (ji9)
    ·rw [if_pos c10] at H
     have c10b0 := eq_true c10
     have c10b1 : decide (0 ≤ (ji9)) = true := decide_eq_true c10
     clear c10
     by_cases c11 : (ji9) ≤ (x5_1.length : Int)
     ·rw [if_pos c11] at H
      have c11b0 := eq_true c11
      have c11b1 : decide ((ji9) ≤ (x5_1.length : Int)) = true := decide_eq_true c11
      clear c11
      obtain ⟨y410, hy410⟩ : ∃ y_ : List (S35), y_ = (x5_1.take ((ji9) : Int).toNat) := ⟨_, rfl⟩
      replace H : (spec_l92Stmts.l0 k1 y410 s0_0 t408) = some (r1, r2) := by first | (rw [hy410]; with_reducible exact H) | (have H2_ := (Option.bind_some _ _).symm.trans H; rw [hy410]; with_reducible exact H2_) | (have H2_ := (Option.bind_some _ _).symm.trans H; with_reducible exact H2_) | with_reducible exact H | (rw [hy410]; exact H) | exact H
      have Ny410 := am hy410
      clear hy410
      have H' := am H
      clear H
      obtain ⟨Ao12, co12, eo12⟩ := Kd.N_slice HO_5.out
      subst eo12
      go_wp2_with (first | ((with_reducible refine gate_callee (f := 80) rfl ?_); refine goesL_ (some 13) rfl rfl Try.func80 (by kernel_rfl) rfl #[.slice Ao12 x5_1.length co12] rfl ab1_ ?_; (with_reducible refine (spec_l11Count.calls k1 _ _ x5_1 t409 _ ?side1 ?side2 A7.out).mono ?_); (case side1 => repeat (first | exact (Kd.N_reads' HO_5.out).2.2 | (with_reducible refine Kd.C_alloc ?_ _) | (with_reducible refine Kd.C_drewN ?_ _) | (with_reducible refine Kd.C_drew ?_))); (case side2 => exact (Kd.N_reads' HO_5.out).2.1); rintro e w13 ⟨rfl, hb⟩; refine ⟨_, rfl, ?_⟩; replace HO_5 := am (Kd.N_below (aN_ HO_5.out) hb); replace HK := am (KeepBut.trans ab3_ (KeepBut.of_below hb g none) (.inl rfl)); replace HB := am (below_step ab5_ hb); replace HI0 := am (IsS91.below ab4_ hb); (try clear hb); (try clear hb2); (try clear hk); (try clear hi); have q14 : ((ji9) : Int) ≤ ((x5_1.length : Int) : Int) := of_decide_eq_true asm_; obtain ⟨i014, hi014, _, hsz14, _⟩ := info_parts info35; have hcut14 := cut_to (P := Try.prog) 23 35 .i64 Try.underlying23 hi014 Ao12 x5_1.length co12 (ji9) (of_decide_eq_true asm_) q14 (Kd.N_reads' HO_5.out).2.1; have hr14 := Kd.N_take (m := ((ji9) : Int).toNat) HO_5.out (by omega); have hy14 : y410.length = ((ji9) : Int).toNat := (by rw [Ny410.out, List.length_take]; omega); rw [← Ny410.out] at hr14; rw [← hy14] at hr14 hcut14; clear hy14 hi014 hsz14 HO_5; have HO412 := am hr14; clear hr14; replace q14 := eq_true q14))
      go_roundg k1
      case measure => have := HK1.out; omega
      case rel => exact ⟨(y410), H', ⟨by have := HK1.out; omega⟩, ⟨by (with_reducible repeat (first | apply Kd.N_alloc | apply Kd.N_drewN | apply Kd.N_drew)); exact HO412.out⟩, ⟨ab4_⟩, ⟨ab3_⟩, ⟨ab5_⟩⟩
     rw [if_neg c11] at H
     exact absurd H (by simp)
    rw [if_neg c10] at H
    exact absurd H (by simp)
   rw [if_neg c8] at H
   have c8b0 : decide (16 < t409) = false := decide_eq_false c8
   clear c8
   simp only [Option.some.injEq, Prod.mk.injEq] at H
   obtain ⟨rfl, rfl⟩ := H
   obtain ⟨Ao15, co15, eo15⟩ := Kd.N_slice HO_5.out
   subst eo15
   go_wp2_with (first | ((with_reducible refine gate_callee (f := 80) rfl ?_); refine goesL_ (some 13) rfl rfl Try.func80 (by kernel_rfl) rfl #[.slice Ao15 x5_1.length co15] rfl ab1_ ?_; (with_reducible refine (spec_l11Count.calls k1 _ _ x5_1 t409 _ ?side1 ?side2 A7.out).mono ?_); (case side1 => repeat (first | exact (Kd.N_reads' HO_5.out).2.2 | (with_reducible refine Kd.C_alloc ?_ _) | (with_reducible refine Kd.C_drewN ?_ _) | (with_reducible refine Kd.C_drew ?_))); (case side2 => exact (Kd.N_reads' HO_5.out).2.1); rintro e w16 ⟨rfl, hb⟩; refine ⟨_, rfl, ?_⟩; replace HO_5 := am (Kd.N_below (aN_ HO_5.out) hb); replace HK := am (KeepBut.trans ab3_ (KeepBut.of_below hb g none) (.inl rfl)); replace HB := am (below_step ab5_ hb); replace HI0 := am (IsS91.below ab4_ hb); (try clear hb); (try clear hb2); (try clear hk); (try clear hi)))
   go_ret
   exact ⟨_, ab11_, by (with_reducible repeat (first | apply Kd.N_alloc | apply Kd.N_drewN | apply Kd.N_drew)); exact Kd.N_mono HO_5.out (fun _ hk => hk.1), ab4_, ab5_, ab3_⟩
theorem spec_l92Endless.mono : ∀ a0 a1 k, LeO (spec_l92Endless.f k a0 a1) (spec_l92Endless.f (k + 1) a0 a1) := by
 intro a0 a1 k
 unfold spec_l92Endless.f
 repeat' first
   | (with_reducible exact spec_l6Rd_pick.mono _ _ _ _)
   | (with_reducible exact spec_l92Block.mono _ _ _ _ _ _ _)
   | (with_reducible exact LeO.refl _)
   | (with_reducible exact LeO.none _)
   | (with_reducible refine LeO.ite ?_ ?_)
   | (with_reducible refine LeO.bind ?_ (fun _ => ?_))
theorem spec_l92Endless.calls (k : Nat) (g : Nat) (s0_0 : List Int) (s0_1 : Int) (r1 : Int) (r2 : Int) (r3 : Int) (r4 : Int) (r5 : Int) (r6 : List (S32)) (r7 : List (S35)) (r8 : List (S35)) (r9 : Int) (w0 w : World) (hI : IsS91 w0 w g s0_0 s0_1) (hB : Below w0.heap.size w0 w) (h : spec_l92Endless.f k s0_0 s0_1 = some (r1, r2, r3, r4, r5, r6, r7, r8, r9)) :
  Calls Try.prog 74 #[.pointer (some ⟨g, 0, none⟩)] w fun e w' => ∃ v5_ v6_ v7_ : Value, e = .returned (.agg #[.int .i64 r1, .int .i64 r2, .int .i64 r3, .int .i64 r4, .int .i64 r5, v5_, v6_, v7_]) ∧ Kd.N k32 32 w' w.heap.size (fun k_ => (w.heap.size ≤ k_) ∧ some k_ ≠ (v6_ : Value).ownBlock ∧ some k_ ≠ (v7_ : Value).ownBlock) v5_ r6 ∧ Kd.N k35 35 w' w.heap.size (fun k_ => (w.heap.size ≤ k_) ∧ some k_ ≠ (v5_ : Value).ownBlock ∧ some k_ ≠ (v7_ : Value).ownBlock) v6_ r7 ∧ Kd.N k35 35 w' w.heap.size (fun k_ => (w.heap.size ≤ k_) ∧ some k_ ≠ (v5_ : Value).ownBlock ∧ some k_ ≠ (v6_ : Value).ownBlock) v7_ r8 ∧ IsS91 w0 w' g s0_0 r9 ∧ Below w0.heap.size w0 w' ∧ KeepBut w w' g none := by
 have hu35 := Try.underlying35
 have HI0 := am hI
 have HK := am (KeepBut.refl w g none)
 have HL := am hB.size
 clear hI
 have HW0 := am hB.size
 have HB := am hB
 clear hB
 have H : ((spec_l4Leaf.f 0 1).bind fun bt414 => ((spec_l6Rd_pick.f k s0_0 s0_1 2).bind fun bt419 => ((spec_l92Block.f k s0_0 bt419.2 0 1 bt419.1 false).bind fun bt421 => (some (3, 0, 0, bt414.1, bt414.2.1, bt414.2.2, bt421.1, ([] : List (S35)), bt421.2))))) = some (r1, r2, r3, r4, r5, r6, r7, r8, r9) := h
 clear h
 obtain ⟨⟨t414, t415, t416⟩, A20, H⟩ := bsm H
 (try dsimp only at H)
 have A2 := am A20
 clear A20
 obtain ⟨⟨t419, t420⟩, A30, H⟩ := bsm H
 (try dsimp only at H)
 have A3 := am A30
 clear A30
 obtain ⟨⟨t421, t424⟩, A40, H⟩ := bsm H
 (try dsimp only at H)
 have A4 := am A40
 clear A40
 simp only [Option.some.injEq, Prod.mk.injEq] at H
 obtain ⟨rfl, rfl, rfl, rfl, rfl, rfl, rfl, rfl, rfl⟩ := H
 go_enter Try.func74, Try.ntmps74
 go_wp2_with (first | ((with_reducible refine gate_dst (N := 2) rfl ?_); refine box_event rfl (N := 2) rfl (cs := #[.int .i64 0, .int .i64 0, .int .i64 0, .int .i64 0, .int .i64 0, .slice none 0 0, .slice none 0 0, .slice none 0 0]) (t := 35) rn_ ?_; intro gb413 hg w5 hbox hb; replace HB := am (below_step ab5_ hb); have BK413 := am (hbox); have GW413 := am ((by rw [hg]; exact (keep_size (w := w) (g := g) (row := none) ab3_) : w.heap.size ≤ gb413)); have GE413 := am ((Nat.le_trans HW0.out (by rw [hg]; exact (keep_size (w := w) (g := g) (row := none) ab3_) : w.heap.size ≤ gb413) : w0.heap.size ≤ gb413)); replace HK := am (KeepBut.trans ab3_ (KeepBut.of_below hb g none) (.inl rfl)); have NB0_413 := am ((by rw [hg]; exact Nat.ne_of_lt (IsS91.lt (show IsS91 w0 _ g s0_0 s0_1 from by repeat (first | (with_reducible first | exact HI0.out | apply IsS91.alloc | apply IsS91.drewN | apply IsS91.drew | apply IsS91.set_1) | exact HI0.out))) : g ≠ gb413)); have NB413_0 := am ((by rw [hg]; exact Nat.ne_of_gt (IsS91.lt (show IsS91 w0 _ g s0_0 s0_1 from by repeat (first | (with_reducible first | exact HI0.out | apply IsS91.alloc | apply IsS91.drewN | apply IsS91.drew | apply IsS91.set_1) | exact HI0.out))) : gb413 ≠ g)); replace HI0 := am (IsS91.below ab4_ hb); clear hb hbox hg) | ((with_reducible refine gate_callee (f := 45) rfl ?_); refine goesL_ (some 3) rfl rfl Try.func45 (by kernel_rfl) rfl #[.int .i64 0, .int .i64 1] rfl ab1_ ?_; (with_reducible refine (spec_l4Leaf.calls 0 1 t414 t415 t416 _ A2.out).mono ?_); rintro e w6 ⟨v417, rfl, ho0, hb⟩; refine ⟨_, rfl, ?_⟩; have HO418 := am (Kd.N_lower (Kd.N_mono (ok' := fun k_ => (w.heap.size ≤ k_) ∧ k_ ≠ gb413 ∧ k_ ≠ g) (Kd.R_N (Kd.R_bound ho0)) (fun k_ hk_ => ⟨(Nat.le_trans (keep_size (w := w) (g := g) (row := none) ab44_) hk_.2.1), (frb_ BK413.out k_ hk_.2.1), (IsS91.fresh ab60_ k_ hk_.2.1)⟩)) (keep_size (w := w) (g := g) (row := none) ab44_)); replace BK413 := am (bbl_ BK413.out hb); replace HK := am (KeepBut.trans ab44_ (KeepBut.of_below hb g none) (.inl rfl)); replace HB := am (below_step ab77_ hb); replace HI0 := am (IsS91.below ab60_ hb); (try clear hb); (try clear hb2); (try clear hk); (try clear hi); (try clear ho0)) | ((with_reducible refine gate_callee (f := 41) rfl ?_); refine goesL_ (some 6) rfl rfl Try.func41 (by kernel_rfl) rfl #[.pointer (some ⟨g, 0, none⟩), .int .i64 2] rfl ab1_ ?_; (with_reducible refine (spec_l6Rd_pick.calls k g s0_0 s0_1 2 t419 t420 w0 _ ?side1 ?side2 A3.out).mono ?_); (case side1 => exact ab60_); (case side2 => exact ab77_); rintro e w7 ⟨rfl, hi, hb, hk⟩; refine ⟨_, rfl, ?_⟩; replace BK413 := am (KeepBut.blk hk (g' := gb413) (o := .cells #[.int .i64 0, .int .i64 0, .int .i64 0, .int .i64 0, .int .i64 0, .slice none 0 0, .slice none 0 0, .slice none 0 0] 35 (0, 0)) (aG_ BK413.out) NB413_0.out (by simp)); replace HO418 := am (Kd.N_mono (Kd.N_keep (Kd.N_mono (ok := fun k_ => (((w.heap.size ≤ k_)) ∧ (k_ ≠ gb413 ∧ k_ ≠ g))) (aN_ HO418.out) (fun k_ hk_ => (⟨hk_, hk_.2.2⟩ : _ ∧ k_ ≠ g))) hk (fun _ h => h.2)) (fun _ h => h.1)); replace HK := am (KeepBut.trans ab44_ hk (.inl rfl)); replace HB := am (hb); replace HI0 := am (hi); (try clear hb); (try clear hb2); (try clear hk); (try clear hi)) | ((with_reducible refine gate_callee (f := 77) rfl ?_); refine goesL_ (some 7) rfl rfl Try.func77 (by kernel_rfl) rfl #[.pointer (some ⟨g, 0, none⟩), .int .i64 0, .int .i64 1, .int .i64 t419, .bool false] rfl ab1_ ?_; (with_reducible refine (spec_l92Block.calls k g s0_0 t420 0 1 t419 false t421 t424 w0 _ ?side1 ?side2 A4.out).mono ?_); (case side1 => exact ab60_); (case side2 => exact ab77_); rintro e w8 ⟨v422, rfl, ho0, hi, hb, hk⟩; refine ⟨_, rfl, ?_⟩; have HO423 := am (Kd.N_lower (Kd.N_mono (ok' := fun k_ => (w.heap.size ≤ k_) ∧ some k_ ≠ (v417 : Value).ownBlock ∧ k_ ≠ gb413 ∧ k_ ≠ g) ho0 (fun k_ hk_ => ⟨(Nat.le_trans (keep_size (w := w) (g := g) (row := none) ab44_) hk_), (Kd.fresh' (Kd.N_lt (aN_ HO418.out)) k_ hk_), (frb_ BK413.out k_ hk_), (IsS91.fresh ab60_ k_ hk_)⟩)) (keep_size (w := w) (g := g) (row := none) ab44_)); replace BK413 := am (KeepBut.blk hk (g' := gb413) (o := .cells #[.int .i64 0, .int .i64 0, .int .i64 0, .int .i64 0, .int .i64 0, .slice none 0 0, .slice none 0 0, .slice none 0 0] 35 (0, 0)) (aG_ BK413.out) NB413_0.out (by simp)); replace HO418 := am (Kd.N_mono (Kd.N_told (Kd.N_oldK (Kd.N_mono (ok := fun k_ => (((w.heap.size ≤ k_)) ∧ (k_ ≠ gb413 ∧ k_ ≠ g))) (aN_ HO418.out) (fun k_ hk_ => (⟨hk_, hk_.2.2⟩ : _ ∧ k_ ≠ g))) hk) (by first | exact Kd.N_base ho0 | exact Kd.N_base (Kd.R_N ho0))) (fun _ h_ => h_.1)); replace HK := am (KeepBut.trans ab44_ hk (.inl rfl)); replace HB := am (hb); replace HI0 := am (hi); (try clear hb); (try clear hb2); (try clear hk); (try clear hi); (try clear ho0); obtain ⟨Ao9, co9, eo9⟩ := Kd.N_slice HO423.out; subst eo9; obtain ⟨Ao10, co10, eo10⟩ := Kd.N_slice HO418.out; subst eo10; have hnb11 := NB413_0.out; have hnc11 := NB0_413.out; obtain ⟨hcz12_0, hcz12_1, hcz12_2, hcz12_3, hcz12_4, hcz12_5, hcz12_6, hcz12_7, hfz12_0, hfz12_1, hfz12_2, hfz12_3, hfz12_4, hfz12_5, hfz12_6, hfz12_7⟩ := bcf8_ BK413.out))
 refine bodyPost_ret (results_cell_row rfl _ _ gb413 35 #[.int .i64 3, .int .i64 0, .int .i64 0, .int .i64 t414, .int .i64 t415, .slice Ao10 t416.length co10, .slice Ao9 t421.length co9, .slice none 0 0] (0, 0) _ rfl (blk_put (blk_put (blk_put (blk_put (blk_put (blk_put (blk_put (blk_put BK413.out 0 _ rfl) 1 _ rfl) 2 _ rfl) 3 _ rfl) 4 _ rfl) 5 _ rfl) 6 _ rfl) 7 _ rfl) Try.underlying35 rfl (by kernel_rfl)) rfl ?_
 exact ⟨_, _, _, ab11_, by (with_reducible repeat (first | apply Kd.N_alloc | apply Kd.N_drewN | apply Kd.N_drew)); exact Kd.N_mono (Kd.N_far (p := ⟨gb413, 7, none⟩) (Kd.N_far (p := ⟨gb413, 6, none⟩) (Kd.N_far (p := ⟨gb413, 5, none⟩) (Kd.N_far (p := ⟨gb413, 4, none⟩) (Kd.N_far (p := ⟨gb413, 3, none⟩) (Kd.N_far (p := ⟨gb413, 2, none⟩) (Kd.N_far (p := ⟨gb413, 1, none⟩) (Kd.N_far (p := ⟨gb413, 0, none⟩) (Kd.N_mono HO418.out (fun k_ hk => (⟨hk, hk.1.2.1⟩ : _ ∧ k_ ≠ gb413))) (fun _ hk => hk.2) (.int .i64 3)) (fun _ hk => hk.2) (.int .i64 0)) (fun _ hk => hk.2) (.int .i64 0)) (fun _ hk => hk.2) (.int .i64 t414)) (fun _ hk => hk.2) (.int .i64 t415)) (fun _ hk => hk.2) (.slice Ao10 t416.length co10)) (fun _ hk => hk.2) (.slice Ao9 t421.length co9)) (fun _ hk => hk.2) (.slice none 0 0)) (fun _ hk => ⟨hk.1.1.1, ⟨hk.1.2, (by simp [Value.ownBlock])⟩⟩), by (with_reducible repeat (first | apply Kd.N_alloc | apply Kd.N_drewN | apply Kd.N_drew)); exact Kd.N_mono (Kd.N_far (p := ⟨gb413, 7, none⟩) (Kd.N_far (p := ⟨gb413, 6, none⟩) (Kd.N_far (p := ⟨gb413, 5, none⟩) (Kd.N_far (p := ⟨gb413, 4, none⟩) (Kd.N_far (p := ⟨gb413, 3, none⟩) (Kd.N_far (p := ⟨gb413, 2, none⟩) (Kd.N_far (p := ⟨gb413, 1, none⟩) (Kd.N_far (p := ⟨gb413, 0, none⟩) (Kd.N_mono HO423.out (fun k_ hk => (⟨hk, hk.2.2.1⟩ : _ ∧ k_ ≠ gb413))) (fun _ hk => hk.2) (.int .i64 3)) (fun _ hk => hk.2) (.int .i64 0)) (fun _ hk => hk.2) (.int .i64 0)) (fun _ hk => hk.2) (.int .i64 t414)) (fun _ hk => hk.2) (.int .i64 t415)) (fun _ hk => hk.2) (.slice Ao10 t416.length co10)) (fun _ hk => hk.2) (.slice Ao9 t421.length co9)) (fun _ hk => hk.2) (.slice none 0 0)) (fun _ hk => ⟨hk.1.1, ⟨hk.1.2.1, (by simp [Value.ownBlock])⟩⟩), by first | exact Kd.R_nil _ _ _ _ _ | exact Kd.N_nil _ _ _ _ _ | exact Kd.V_nil _ _ _ _ _ | exact Kd.Q_nil _ _ _ _ _ | exact Kd.S_nil _ _ _ _ _, ab60_, ab77_, ab44_⟩
theorem spec_l92Some.mono : ∀ a0 a1 k, LeO (spec_l92Some.f k a0 a1) (spec_l92Some.f (k + 1) a0 a1) := by
 intro a0 a1 k
 unfold spec_l92Some.f
 repeat' first
   | (with_reducible exact spec_l6Rd_pick.mono _ _ _ _)
   | (with_reducible exact spec_l91Leaf.mono _ _ _)
   | (with_reducible exact spec_l92Endless.mono _ _ _)
   | (with_reducible exact spec_l92If.mono _ _ _ _ _ _)
   | (with_reducible exact spec_l92Stmts.mono _ _ _ _)
   | (with_reducible exact LeO.refl _)
   | (with_reducible exact LeO.none _)
   | (with_reducible refine LeO.ite ?_ ?_)
   | (with_reducible refine LeO.bind ?_ (fun _ => ?_))
theorem spec_l92Some.calls (k : Nat) (g : Nat) (s0_0 : List Int) (s0_1 : Int) (r1 : List (S35)) (r2 : Int) (w0 w : World) (hI : IsS91 w0 w g s0_0 s0_1) (hB : Below w0.heap.size w0 w) (h : spec_l92Some.f k s0_0 s0_1 = some (r1, r2)) :
  Calls Try.prog 40 #[.pointer (some ⟨g, 0, none⟩)] w fun e w' => ∃ v0_ : Value, e = .returned (v0_) ∧ Kd.N k35 35 w' w.heap.size (fun k_ => (w.heap.size ≤ k_)) v0_ r1 ∧ IsS91 w0 w' g s0_0 r2 ∧ Below w0.heap.size w0 w' ∧ KeepBut w w' g none := by
 have hu35 := Try.underlying35
 have HI0 := am hI
 have HK := am (KeepBut.refl w g none)
 have HL := am hB.size
 clear hI
 have HW0 := am hB.size
 have HB := am hB
 clear hB
 have H : ((spec_l92Stmts.f k s0_0 s0_1 3).bind fun bt425 => ((spec_l6Rd_pick.f k s0_0 bt425.2 24).bind fun bt429 => (if bt429.1 = 0 then ((spec_l92Endless.f k s0_0 bt429.2).bind fun bt431 => (if bt425.1.length < 1256584717458 then (some ((bt425.1 ++ [(⟨bt431.1, bt431.2.1, bt431.2.2.1, (⟨bt431.2.2.2.1, bt431.2.2.2.2.1, bt431.2.2.2.2.2.1⟩ : S32), bt431.2.2.2.2.2.2.1, bt431.2.2.2.2.2.2.2.1⟩ : S35)]), bt431.2.2.2.2.2.2.2.2)) else (none))) else (if bt429.1 = 1 then ((some (([0, 8] : List Int) : List Int)).bind fun y449 => ((spec_l6Rd_pick.f k s0_0 bt429.2 2).bind fun bt452 => (if 0 ≤ bt452.1 then (if bt452.1 < (y449.length : Int) then (if bt425.1.length < 1256584717458 then (some ((bt425.1 ++ [(⟨rd y449 bt452.1, 0, 0, (⟨0, 0, ([] : List (S32))⟩ : S32), ([] : List (S35)), ([] : List (S35))⟩ : S35)]), bt452.2)) else (none)) else (none)) else (none)))) else (if bt429.1 = 2 then ((spec_l91Leaf.f k s0_0 bt429.2).bind fun bt458 => (if bt425.1.length < 1256584717458 then (some ((bt425.1 ++ [(⟨4, 0, 3, (⟨bt458.1, bt458.2.1, bt458.2.2.1⟩ : S32), ([] : List (S35)), ([] : List (S35))⟩ : S35)]), bt458.2.2.2)) else (none))) else (if bt429.1 = 3 then (if bt425.1.length < 1256584717458 then (some ((bt425.1 ++ [(⟨6, 1, 0, (⟨0, 0, ([] : List (S32))⟩ : S32), ([] : List (S35)), ([] : List (S35))⟩ : S35)]), bt429.2)) else (none)) else (if bt429.1 = 4 then ((spec_l92If.f k s0_0 bt429.2 1 1 false).bind fun bt470 => (if bt425.1.length < 1256584717458 then (some ((bt425.1 ++ [(⟨bt470.1, bt470.2.1, bt470.2.2.1, (⟨bt470.2.2.2.1, bt470.2.2.2.2.1, bt470.2.2.2.2.2.1⟩ : S32), (([(⟨2, 0, 0, (⟨0, 0, ([] : List (S32))⟩ : S32), (([(⟨2, 0, 0, (⟨0, 0, ([] : List (S32))⟩ : S32), (([(⟨2, 0, 0, (⟨0, 0, ([] : List (S32))⟩ : S32), ([] : List (S35)), ([] : List (S35))⟩ : S35)] : List (S35))), ([] : List (S35))⟩ : S35)] : List (S35))), ([] : List (S35))⟩ : S35)] : List (S35))), bt470.2.2.2.2.2.2.2.1⟩ : S35)]), bt470.2.2.2.2.2.2.2.2)) else (none))) else (if bt429.1 = 5 then ((spec_l91Leaf.f k s0_0 bt429.2).bind fun bt498 => (if bt425.1.length < 1256584717458 then (some ((bt425.1 ++ [(⟨3, 0, 0, (⟨bt498.1, bt498.2.1, bt498.2.2.1⟩ : S32), ([] : List (S35)), (([(⟨6, 0, 0, (⟨0, 0, ([] : List (S32))⟩ : S32), ([] : List (S35)), ([] : List (S35))⟩ : S35)] : List (S35)))⟩ : S35)]), bt498.2.2.2)) else (none))) else (some (bt425.1, bt429.2)))))))))) = some (r1, r2) := h
 clear h
 obtain ⟨⟨t425, t428⟩, A20, H⟩ := bsm H
 (try dsimp only at H)
 have A2 := am A20
 clear A20
 obtain ⟨⟨t429, t430⟩, A30, H⟩ := bsm H
 (try dsimp only at H)
 have A3 := am A30
 clear A30
 have HH_ := am H
 clear H
 go_enter Try.func40, Try.ntmps40
 go_upto_region 3 with (first | ((with_reducible refine gate_callee (f := 73) rfl ?_); refine goesL_ (some 6) rfl rfl Try.func73 (by kernel_rfl) rfl #[.pointer (some ⟨g, 0, none⟩), .int .i64 3] rfl ab1_ ?_; (with_reducible refine (spec_l92Stmts.calls k g s0_0 s0_1 3 t425 t428 w0 _ ?side1 ?side2 A2.out).mono ?_); (case side1 => exact ab4_); (case side2 => exact ab5_); rintro e w7 ⟨v426, rfl, ho0, hi, hb, hk⟩; refine ⟨_, rfl, ?_⟩; have HO427 := am (Kd.N_lower (Kd.N_mono (ok' := fun k_ => (w.heap.size ≤ k_) ∧ k_ ≠ g) ho0 (fun k_ hk_ => ⟨(Nat.le_trans (keep_size (w := w) (g := g) (row := none) ab3_) hk_), (IsS91.fresh ab4_ k_ hk_)⟩)) (keep_size (w := w) (g := g) (row := none) ab3_)); replace HK := am (KeepBut.trans ab3_ hk (.inl rfl)); replace HB := am (hb); replace HI0 := am (hi); (try clear hb); (try clear hb2); (try clear hk); (try clear hi); (try clear ho0)) | ((with_reducible refine gate_callee (f := 41) rfl ?_); refine goesL_ (some 8) rfl rfl Try.func41 (by kernel_rfl) rfl #[.pointer (some ⟨g, 0, none⟩), .int .i64 24] rfl ab1_ ?_; (with_reducible refine (spec_l6Rd_pick.calls k g s0_0 t428 24 t429 t430 w0 _ ?side1 ?side2 A3.out).mono ?_); (case side1 => exact ab4_); (case side2 => exact ab5_); rintro e w8 ⟨rfl, hi, hb, hk⟩; refine ⟨_, rfl, ?_⟩; replace HO427 := am (Kd.N_mono (Kd.N_keep (Kd.N_mono (ok := fun k_ => (((w.heap.size ≤ k_)) ∧ k_ ≠ g)) (aN_ HO427.out) (fun k_ hk_ => (⟨hk_, hk_.2⟩ : _ ∧ k_ ≠ g))) hk (fun _ h => h.2)) (fun _ h => h.1)); replace HK := am (KeepBut.trans ab3_ hk (.inl rfl)); replace HB := am (hb); replace HI0 := am (hi); (try clear hb); (try clear hb2); (try clear hk); (try clear hi)))
 have H := HH_.out
 clear HH_
 by_cases c4 : t429 = 0
 ·rw [if_pos c4] at H
  have c4b0 : (t429 == 0) = true := beq_iff_eq.mpr c4
  have c4b1 : (t429 != 0) = false := bne_eq_false_iff_eq.mpr c4
  clear c4
  obtain ⟨⟨t431, t432, t433, t434, t435, t436, t439, t442, t445⟩, A50, H⟩ := bsm H
  (try dsimp only at H)
  have A5 := am A50
  clear A50
  by_cases c6 : t425.length < 1256584717458
  ·rw [if_pos c6] at H
   have LMc6 := am c6
   clear c6
   obtain ⟨y446, hy446⟩ : ∃ y_ : List (S35), y_ = (t425 ++ [(⟨t431, t432, t433, (⟨t434, t435, t436⟩ : S32), t439, t442⟩ : S35)]) := ⟨_, rfl⟩
   replace H : (some (y446, t445)) = some (r1, r2) := by first | (rw [hy446]; with_reducible exact H) | (have H2_ := (Option.bind_some _ _).symm.trans H; rw [hy446]; with_reducible exact H2_) | (have H2_ := (Option.bind_some _ _).symm.trans H; with_reducible exact H2_) | with_reducible exact H | (rw [hy446]; exact H) | exact H
   have Ny446 := am hy446
   clear hy446
   simp only [Option.some.injEq, Prod.mk.injEq] at H
   obtain ⟨rfl, rfl⟩ := H
   go_wp2_with (first | ((with_reducible refine gate_callee (f := 74) rfl ?_); refine goesL_ (some 13) rfl rfl Try.func74 (by kernel_rfl) rfl #[.pointer (some ⟨g, 0, none⟩)] rfl ab1_ ?_; (with_reducible refine (spec_l92Endless.calls k g s0_0 t430 t431 t432 t433 t434 t435 t436 t439 t442 t445 w0 _ ?side1 ?side2 A5.out).mono ?_); (case side1 => exact ab4_); (case side2 => exact ab5_); rintro e w9 ⟨v437, v440, v443, rfl, ho0, ho1, ho2, hi, hb, hk⟩; refine ⟨_, rfl, ?_⟩; have HO438 := am (Kd.N_lower (Kd.N_mono (ok' := fun k_ => (w.heap.size ≤ k_) ∧ some k_ ≠ (v440 : Value).ownBlock ∧ some k_ ≠ (v443 : Value).ownBlock ∧ some k_ ≠ (v426 : Value).ownBlock ∧ k_ ≠ g) ho0 (fun k_ hk_ => ⟨(Nat.le_trans (keep_size (w := w) (g := g) (row := none) ab3_) hk_.1), hk_.2.1, hk_.2.2, (Kd.fresh' (Kd.N_lt (aN_ HO427.out)) k_ hk_.1), (IsS91.fresh ab4_ k_ hk_.1)⟩)) (keep_size (w := w) (g := g) (row := none) ab3_)); have HO441 := am (Kd.N_lower (Kd.N_mono (ok' := fun k_ => (w.heap.size ≤ k_) ∧ some k_ ≠ (v437 : Value).ownBlock ∧ some k_ ≠ (v443 : Value).ownBlock ∧ some k_ ≠ (v426 : Value).ownBlock ∧ k_ ≠ g) ho1 (fun k_ hk_ => ⟨(Nat.le_trans (keep_size (w := w) (g := g) (row := none) ab3_) hk_.1), hk_.2.1, hk_.2.2, (Kd.fresh' (Kd.N_lt (aN_ HO427.out)) k_ hk_.1), (IsS91.fresh ab4_ k_ hk_.1)⟩)) (keep_size (w := w) (g := g) (row := none) ab3_)); have HO444 := am (Kd.N_lower (Kd.N_mono (ok' := fun k_ => (w.heap.size ≤ k_) ∧ some k_ ≠ (v437 : Value).ownBlock ∧ some k_ ≠ (v440 : Value).ownBlock ∧ some k_ ≠ (v426 : Value).ownBlock ∧ k_ ≠ g) ho2 (fun k_ hk_ => ⟨(Nat.le_trans (keep_size (w := w) (g := g) (row := none) ab3_) hk_.1), hk_.2.1, hk_.2.2, (Kd.fresh' (Kd.N_lt (aN_ HO427.out)) k_ hk_.1), (IsS91.fresh ab4_ k_ hk_.1)⟩)) (keep_size (w := w) (g := g) (row := none) ab3_)); replace HO427 := am (Kd.N_mono (Kd.N_told (Kd.N_told (Kd.N_told (Kd.N_oldK (Kd.N_mono (ok := fun k_ => (((w.heap.size ≤ k_)) ∧ k_ ≠ g)) (aN_ HO427.out) (fun k_ hk_ => (⟨hk_, hk_.2⟩ : _ ∧ k_ ≠ g))) hk) (by first | exact Kd.N_base ho0 | exact Kd.N_base (Kd.R_N ho0))) (Kd.N_base ho1)) (Kd.N_base ho2)) (fun _ h_ => h_.1)); replace HK := am (KeepBut.trans ab3_ hk (.inl rfl)); replace HB := am (hb); replace HI0 := am (hi); (try clear hb); (try clear hb2); (try clear hk); (try clear hi); (try clear ho0); (try clear ho1); (try clear ho2); obtain ⟨Ao11, co11, eo11⟩ := Kd.N_slice HO438.out; subst eo11; obtain ⟨Ao12, co12, eo12⟩ := Kd.N_slice HO441.out; subst eo12; obtain ⟨Ao13, co13, eo13⟩ := Kd.N_slice HO444.out; subst eo13) | ((with_reducible refine gate_builtin (b := .append) (xs := #[.tmp 11, .tmp 14]) rfl ?_); at_builtin; refine Kd.N_append k35 w.heap.size rfl (.tmp 11) (.tmp 14) 23 35 (.agg #[(.int .i64 0), (.int .i64 0), (.int .i64 0), (.int .i64 0), (.int .i64 0), (.slice none 0 0), (.slice none 0 0), (.slice none 0 0)]) 112 rfl Try.underlying23 info35 rfl (by decide) (by omega) v426 t425 (⟨t431, t432, t433, (⟨t434, t435, t436⟩ : S32), t439, t442⟩ : S35) [.int .i64 t431, .int .i64 t432, .int .i64 t433, .int .i64 t434, .int .i64 t435, .slice Ao11 t436.length co11, .slice Ao12 t439.length co12, .slice Ao13 t442.length co13] (fun k_ => (w.heap.size ≤ k_) ∧ k_ ≠ g) (fun k_ => ((fun k_ => (w.heap.size ≤ k_) ∧ k_ ≠ g)) k_ ∧ some k_ ≠ (v426 : Value).ownBlock) rfl rfl ?aP (fun _ hk => hk) ?aF ?aO (Below.refl _ _) ?aS ?aL ?_; (case aP => exact (k35_mkF _ _ (⟨t431, t432, t433, (⟨t434, t435, t436⟩ : S32), t439, t442⟩ : S35) (Kd.N_reads' (Kd.N_mono (ok' := (fun k_ => ((fun k_ => (w.heap.size ≤ k_) ∧ k_ ≠ g)) k_ ∧ some k_ ≠ (v426 : Value).ownBlock)) (HO438.out) (fun k_ hk => ⟨⟨hk.1, hk.2.2.2.2⟩, hk.2.2.2.1⟩))).2.1 (Kd.N_F (Kd.N_mono (ok' := (fun k_ => ((fun k_ => (w.heap.size ≤ k_) ∧ k_ ≠ g)) k_ ∧ some k_ ≠ (v426 : Value).ownBlock)) (HO438.out) (fun k_ hk => ⟨⟨hk.1, hk.2.2.2.2⟩, hk.2.2.2.1⟩))) (Kd.N_reads' (Kd.N_mono (ok' := (fun k_ => ((fun k_ => (w.heap.size ≤ k_) ∧ k_ ≠ g)) k_ ∧ some k_ ≠ (v426 : Value).ownBlock)) (HO441.out) (fun k_ hk => ⟨⟨hk.1, hk.2.2.2.2⟩, hk.2.2.2.1⟩))).2.1 (Kd.N_F (Kd.N_mono (ok' := (fun k_ => ((fun k_ => (w.heap.size ≤ k_) ∧ k_ ≠ g)) k_ ∧ some k_ ≠ (v426 : Value).ownBlock)) (HO441.out) (fun k_ hk => ⟨⟨hk.1, hk.2.2.2.2⟩, hk.2.2.2.1⟩))) (Kd.N_reads' (Kd.N_mono (ok' := (fun k_ => ((fun k_ => (w.heap.size ≤ k_) ∧ k_ ≠ g)) k_ ∧ some k_ ≠ (v426 : Value).ownBlock)) (HO444.out) (fun k_ hk => ⟨⟨hk.1, hk.2.2.2.2⟩, hk.2.2.2.1⟩))).2.1 (Kd.N_F (Kd.N_mono (ok' := (fun k_ => ((fun k_ => (w.heap.size ≤ k_) ∧ k_ ≠ g)) k_ ∧ some k_ ≠ (v426 : Value).ownBlock)) (HO444.out) (fun k_ hk => ⟨⟨hk.1, hk.2.2.2.2⟩, hk.2.2.2.1⟩))))); (case aF => exact (fun k_ hk => ⟨(Nat.le_trans (keep_size (w := w) (g := g) (row := none) ab3_) hk), IsS91.fresh ab4_ k_ hk⟩)); (case aO => exact (by (with_reducible repeat (first | apply Kd.N_alloc | apply Kd.N_drewN | apply Kd.N_drew)); exact Kd.N_mono HO427.out (fun _ hk => ⟨hk.1.1.1.1, hk.1.1.1.2⟩))); (case aS => exact (keep_size (w := w) (g := g) (row := none) ab3_)); (case aL => have := LMc6.out; omega); intro v447 w10 ho hb hg hat; rw [← Ny446.out] at ho; replace HB := am (below_weaken ab5_ HL.out hb); replace HI0 := am (IsS91.grown ab4_ hg (IsS91.own_neN HI0.out HO427.out (by decide))); replace HK := am (KeepBut.trans ab3_ (KeepBut.of_grown hg g) (Kd.N_base2 HO427.out)); have HO448 := am (ho); clear HO427 HO438 HO441 HO444 ho hb hg hat))
   go_ret
   exact ⟨_, ab11_, by (with_reducible repeat (first | apply Kd.N_alloc | apply Kd.N_drewN | apply Kd.N_drew)); exact Kd.N_mono HO448.out (fun _ hk => hk.1), ab4_, ab5_, ab3_⟩
  rw [if_neg c6] at H
  exact absurd H (by simp)
 rw [if_neg c4] at H
 have c4b0 : (t429 == 0) = false := beq_eq_false_iff_ne.mpr c4
 have c4b1 : (t429 != 0) = true := bne_iff_ne.mpr c4
 by_cases c14 : t429 = 1
 ·rw [if_pos c14] at H
  have c14b0 : (t429 == 1) = true := beq_iff_eq.mpr c14
  have c14b1 : (t429 != 1) = false := bne_eq_false_iff_eq.mpr c14
  clear c14
  obtain ⟨y449, hy449⟩ : ∃ y_ : List Int, y_ = (([0, 8] : List Int)) := ⟨_, rfl⟩
  replace H : ((spec_l6Rd_pick.f k s0_0 t430 2).bind fun bt452 => (if 0 ≤ bt452.1 then (if bt452.1 < (y449.length : Int) then (if t425.length < 1256584717458 then (some ((t425 ++ [(⟨rd y449 bt452.1, 0, 0, (⟨0, 0, ([] : List (S32))⟩ : S32), ([] : List (S35)), ([] : List (S35))⟩ : S35)]), bt452.2)) else (none)) else (none)) else (none))) = some (r1, r2) := by first | (rw [hy449]; with_reducible exact H) | (have H2_ := (Option.bind_some _ _).symm.trans H; rw [hy449]; with_reducible exact H2_) | (have H2_ := (Option.bind_some _ _).symm.trans H; with_reducible exact H2_) | with_reducible exact H | (rw [hy449]; exact H) | exact H
  have Ny449 := am hy449
  clear hy449
  obtain ⟨⟨t452, t453⟩, A150, H⟩ := bsm H
  (try dsimp only at H)
  have A15 := am A150
  clear A150
  by_cases c16 : 0 ≤ t452
  ·rw [if_pos c16] at H
   have c16b0 : decide (0 ≤ t452) = true := decide_eq_true c16
   clear c16
   by_cases c17 : t452 < (y449.length : Int)
   ·rw [if_pos c17] at H
    have c17b0 : decide (t452 < (y449.length : Int)) = true := decide_eq_true c17
    clear c17
    by_cases c18 : t425.length < 1256584717458
    ·rw [if_pos c18] at H
     have LMc18 := am c18
     clear c18
     obtain ⟨y455, hy455⟩ : ∃ y_ : List (S35), y_ = (t425 ++ [(⟨rd y449 t452, 0, 0, (⟨0, 0, ([] : List (S32))⟩ : S32), ([] : List (S35)), ([] : List (S35))⟩ : S35)]) := ⟨_, rfl⟩
     replace H : (some (y455, t453)) = some (r1, r2) := by first | (rw [hy455]; with_reducible exact H) | (have H2_ := (Option.bind_some _ _).symm.trans H; rw [hy455]; with_reducible exact H2_) | (have H2_ := (Option.bind_some _ _).symm.trans H; with_reducible exact H2_) | with_reducible exact H | (rw [hy455]; exact H) | exact H
     have Ny455 := am hy455
     clear hy455
     simp only [Option.some.injEq, Prod.mk.injEq] at H
     obtain ⟨rfl, rfl⟩ := H
     go_wp2_with (first | ((with_reducible refine gate_dst (N := 19) rfl ?_); refine Kd.R_lit (Kd.int .i64) _ 3 rfl (N := 19) rfl (xs := ([0, 8] : List Int)) (inner := [.int .i64 0, .int .i64 8]) (ok := fun _ => True) (okp := fun _ => True) rn_ ?hp (fun _ hk => hk) trivial (Below.refl _ _) (Nat.le_refl _) (by simp) ?_; (case hp => exact (Reps.one (show Kd.M (Kd.int .i64) _ _ _ 0 [.int .i64 0] from rfl) (Reps.one (show Kd.M (Kd.int .i64) _ _ _ 8 [.int .i64 8] from rfl) (Reps.none _ _)))); intro v450 w21 ho22 hb hg_ hnew_; clear hg_ hnew_; (first | rw [← Ny449.out] at ho22 | (simp only [Int.reduceToNat] at ho22; rw [← Ny449.out] at ho22)); replace HO427 := am (Kd.N_elder' (aN_ HO427.out) (Kd.R_base ho22) hb); have HO451 := am (Kd.R_lower (Kd.R_newM (M := fun k_ => (w.heap.size ≤ k_)) ho22 (keep_size (w := w) (g := g) (row := none) ab3_) (fun k_ h_ => h_)) (keep_size (w := w) (g := g) (row := none) ab3_)); replace HK := am (KeepBut.trans ab3_ (KeepBut.of_below hb g none) (.inl rfl)); replace HB := am (below_step ab5_ hb); replace HI0 := am (IsS91.below ab4_ hb); clear hb ho22) | ((with_reducible refine gate_callee (f := 41) rfl ?_); refine goesL_ (some 21) rfl rfl Try.func41 (by kernel_rfl) rfl #[.pointer (some ⟨g, 0, none⟩), .int .i64 2] rfl ab1_ ?_; (with_reducible refine (spec_l6Rd_pick.calls k g s0_0 t430 2 t452 t453 w0 _ ?side1 ?side2 A15.out).mono ?_); (case side1 => exact ab4_); (case side2 => exact ab5_); rintro e w23 ⟨rfl, hi, hb, hk⟩; refine ⟨_, rfl, ?_⟩; replace HO427 := am (Kd.N_mono (Kd.N_keep (Kd.N_mono (ok := fun k_ => ((((w.heap.size ≤ k_)) ∧ k_ ≠ g) ∧ some k_ ≠ (v450 : Value).ownBlock)) (aN_ HO427.out) (fun k_ hk_ => (⟨hk_, hk_.1.2⟩ : _ ∧ k_ ≠ g))) hk (fun _ h => h.2)) (fun _ h => h.1)); replace HO451 := am (Kd.R_mono (Kd.R_keep (IsS91.apart (show IsS91 w0 _ g s0_0 t430 from by repeat (first | (with_reducible first | exact HI0.out | apply IsS91.alloc | apply IsS91.drewN | apply IsS91.drew | apply IsS91.set_1) | exact HI0.out)) (aR_ HO451.out) (by decide)) hk (fun _ h => h.2)) (fun _ h => h.1)); replace HK := am (KeepBut.trans ab3_ hk (.inl rfl)); replace HB := am (hb); replace HI0 := am (hi); (try clear hb); (try clear hb2); (try clear hk); (try clear hi); obtain ⟨Ao24, co24, eo24⟩ := Kd.R_slice HO451.out; subst eo24; have p454 : 0 ≤ (t452 : Int) := of_decide_eq_true asm_; have q454 : t452 < (y449.length : Int) := of_decide_eq_true asm_; obtain ⟨ad454, e454, hx454_0⟩ := Kd.at_int (Kd.R_reads' HO451.out).2.2 t452 p454 q454; cases e454; replace p454 := eq_true p454; replace q454 := eq_true q454) | ((with_reducible refine gate_builtin (b := .append) (xs := #[.tmp 18, .tmp 25]) rfl ?_); at_builtin; refine Kd.N_append k35 w.heap.size rfl (.tmp 18) (.tmp 25) 23 35 (.agg #[(.int .i64 0), (.int .i64 0), (.int .i64 0), (.int .i64 0), (.int .i64 0), (.slice none 0 0), (.slice none 0 0), (.slice none 0 0)]) 112 rfl Try.underlying23 info35 rfl (by decide) (by omega) v426 t425 (⟨rd y449 t452, 0, 0, (⟨0, 0, ([] : List (S32))⟩ : S32), ([] : List (S35)), ([] : List (S35))⟩ : S35) [.int .i64 (rd y449 t452), .int .i64 0, .int .i64 0, .int .i64 0, .int .i64 0, .slice none 0 0, .slice none 0 0, .slice none 0 0] (fun k_ => (w.heap.size ≤ k_) ∧ some k_ ≠ (.slice (some ad454) y449.length co24 : Value).ownBlock ∧ k_ ≠ g) (fun k_ => ((fun k_ => (w.heap.size ≤ k_) ∧ some k_ ≠ (.slice (some ad454) y449.length co24 : Value).ownBlock ∧ k_ ≠ g)) k_ ∧ some k_ ≠ (v426 : Value).ownBlock) rfl rfl ?aP (fun _ hk => hk) ?aF ?aO (Below.refl _ _) ?aS ?aL ?_; (case aP => exact (k35_mkF _ _ (⟨rd y449 t452, 0, 0, (⟨0, 0, ([] : List (S32))⟩ : S32), ([] : List (S35)), ([] : List (S35))⟩ : S35) (Nat.le_refl _) (Kd.F_nil _ _ _) (Nat.le_refl _) (Kd.F_nil _ _ _) (Nat.le_refl _) (Kd.F_nil _ _ _))); (case aF => exact (fun k_ hk => ⟨(Nat.le_trans (keep_size (w := w) (g := g) (row := none) ab3_) hk), Kd.fresh' (Kd.R_lt (aR_ HO451.out)) k_ hk, IsS91.fresh ab4_ k_ hk⟩)); (case aO => exact (by (with_reducible repeat (first | apply Kd.N_alloc | apply Kd.N_drewN | apply Kd.N_drew)); exact Kd.N_mono HO427.out (fun _ hk => ⟨hk.1.1, ⟨hk.2, hk.1.2⟩⟩))); (case aS => exact (keep_size (w := w) (g := g) (row := none) ab3_)); (case aL => have := LMc18.out; omega); intro v456 w25 ho hb hg hat; rw [← Ny455.out] at ho; replace HO451 := am (Kd.R_over' (aR_ HO451.out) (Kd.N_typed (aN_ HO427.out)) (by decide) hg); replace HB := am (below_weaken ab5_ HL.out hb); replace HI0 := am (IsS91.grown ab4_ hg (IsS91.own_neN HI0.out HO427.out (by decide))); replace HK := am (KeepBut.trans ab3_ (KeepBut.of_grown hg g) (Kd.N_base2 HO427.out)); have HO457 := am (ho); clear HO427 ho hb hg hat))
     go_ret
     exact ⟨_, ab11_, by (with_reducible repeat (first | apply Kd.N_alloc | apply Kd.N_drewN | apply Kd.N_drew)); exact Kd.N_mono HO457.out (fun _ hk => hk.1), ab4_, ab5_, ab3_⟩
    rw [if_neg c18] at H
    exact absurd H (by simp)
   rw [if_neg c17] at H
   exact absurd H (by simp)
  rw [if_neg c16] at H
  exact absurd H (by simp)
 rw [if_neg c14] at H
 have c14b0 : (t429 == 1) = false := beq_eq_false_iff_ne.mpr c14
 have c14b1 : (t429 != 1) = true := bne_iff_ne.mpr c14
 by_cases c26 : t429 = 2
 ·rw [if_pos c26] at H
  have c26b0 : (t429 == 2) = true := beq_iff_eq.mpr c26
  have c26b1 : (t429 != 2) = false := bne_eq_false_iff_eq.mpr c26
  clear c26
  obtain ⟨⟨t458, t459, t460, t463⟩, A270, H⟩ := bsm H
  (try dsimp only at H)
  have A27 := am A270
  clear A270
  by_cases c28 : t425.length < 1256584717458
  ·rw [if_pos c28] at H
   have LMc28 := am c28
   clear c28
   obtain ⟨y464, hy464⟩ : ∃ y_ : List (S35), y_ = (t425 ++ [(⟨4, 0, 3, (⟨t458, t459, t460⟩ : S32), ([] : List (S35)), ([] : List (S35))⟩ : S35)]) := ⟨_, rfl⟩
   replace H : (some (y464, t463)) = some (r1, r2) := by first | (rw [hy464]; with_reducible exact H) | (have H2_ := (Option.bind_some _ _).symm.trans H; rw [hy464]; with_reducible exact H2_) | (have H2_ := (Option.bind_some _ _).symm.trans H; with_reducible exact H2_) | with_reducible exact H | (rw [hy464]; exact H) | exact H
   have Ny464 := am hy464
   clear hy464
   simp only [Option.some.injEq, Prod.mk.injEq] at H
   obtain ⟨rfl, rfl⟩ := H
   go_wp2_with (first | ((with_reducible refine gate_callee (f := 75) rfl ?_); refine goesL_ (some 31) rfl rfl Try.func75 (by kernel_rfl) rfl #[.pointer (some ⟨g, 0, none⟩)] rfl ab1_ ?_; (with_reducible refine (spec_l91Leaf.calls k g s0_0 t430 t458 t459 t460 t463 w0 _ ?side1 ?side2 A27.out).mono ?_); (case side1 => exact ab4_); (case side2 => exact ab5_); rintro e w31 ⟨v461, rfl, ho0, hi, hb, hk⟩; refine ⟨_, rfl, ?_⟩; have HO462 := am (Kd.N_lower (Kd.N_mono (ok' := fun k_ => (w.heap.size ≤ k_) ∧ some k_ ≠ (v426 : Value).ownBlock ∧ k_ ≠ g) (Kd.R_N (Kd.R_bound ho0)) (fun k_ hk_ => ⟨(Nat.le_trans (keep_size (w := w) (g := g) (row := none) ab3_) hk_.2.1), (Kd.fresh' (Kd.N_lt (aN_ HO427.out)) k_ hk_.2.1), (IsS91.fresh ab4_ k_ hk_.2.1)⟩)) (keep_size (w := w) (g := g) (row := none) ab3_)); replace HO427 := am (Kd.N_mono (Kd.N_told (Kd.N_oldK (Kd.N_mono (ok := fun k_ => (((w.heap.size ≤ k_)) ∧ k_ ≠ g)) (aN_ HO427.out) (fun k_ hk_ => (⟨hk_, hk_.2⟩ : _ ∧ k_ ≠ g))) hk) (by first | exact Kd.N_base ho0 | exact Kd.N_base (Kd.R_N ho0))) (fun _ h_ => h_.1)); replace HK := am (KeepBut.trans ab3_ hk (.inl rfl)); replace HB := am (hb); replace HI0 := am (hi); (try clear hb); (try clear hb2); (try clear hk); (try clear hi); (try clear ho0); obtain ⟨Ao32, co32, eo32⟩ := Kd.N_slice HO462.out; subst eo32) | ((with_reducible refine gate_builtin (b := .append) (xs := #[.tmp 29, .tmp 33]) rfl ?_); at_builtin; refine Kd.N_append k35 w.heap.size rfl (.tmp 29) (.tmp 33) 23 35 (.agg #[(.int .i64 0), (.int .i64 0), (.int .i64 0), (.int .i64 0), (.int .i64 0), (.slice none 0 0), (.slice none 0 0), (.slice none 0 0)]) 112 rfl Try.underlying23 info35 rfl (by decide) (by omega) v426 t425 (⟨4, 0, 3, (⟨t458, t459, t460⟩ : S32), ([] : List (S35)), ([] : List (S35))⟩ : S35) [.int .i64 4, .int .i64 0, .int .i64 3, .int .i64 t458, .int .i64 t459, .slice Ao32 t460.length co32, .slice none 0 0, .slice none 0 0] (fun k_ => (w.heap.size ≤ k_) ∧ k_ ≠ g) (fun k_ => ((fun k_ => (w.heap.size ≤ k_) ∧ k_ ≠ g)) k_ ∧ some k_ ≠ (v426 : Value).ownBlock) rfl rfl ?aP (fun _ hk => hk) ?aF ?aO (Below.refl _ _) ?aS ?aL ?_; (case aP => exact (k35_mkF _ _ (⟨4, 0, 3, (⟨t458, t459, t460⟩ : S32), ([] : List (S35)), ([] : List (S35))⟩ : S35) (Kd.N_reads' (Kd.N_mono (ok' := (fun k_ => ((fun k_ => (w.heap.size ≤ k_) ∧ k_ ≠ g)) k_ ∧ some k_ ≠ (v426 : Value).ownBlock)) (HO462.out) (fun k_ hk => ⟨⟨hk.1, hk.2.2⟩, hk.2.1⟩))).2.1 (Kd.N_F (Kd.N_mono (ok' := (fun k_ => ((fun k_ => (w.heap.size ≤ k_) ∧ k_ ≠ g)) k_ ∧ some k_ ≠ (v426 : Value).ownBlock)) (HO462.out) (fun k_ hk => ⟨⟨hk.1, hk.2.2⟩, hk.2.1⟩))) (Nat.le_refl _) (Kd.F_nil _ _ _) (Nat.le_refl _) (Kd.F_nil _ _ _))); (case aF => exact (fun k_ hk => ⟨(Nat.le_trans (keep_size (w := w) (g := g) (row := none) ab3_) hk), IsS91.fresh ab4_ k_ hk⟩)); (case aO => exact (by (with_reducible repeat (first | apply Kd.N_alloc | apply Kd.N_drewN | apply Kd.N_drew)); exact Kd.N_mono HO427.out (fun _ hk => ⟨hk.1.1, hk.1.2⟩))); (case aS => exact (keep_size (w := w) (g := g) (row := none) ab3_)); (case aL => have := LMc28.out; omega); intro v465 w33 ho hb hg hat; rw [← Ny464.out] at ho; replace HB := am (below_weaken ab5_ HL.out hb); replace HI0 := am (IsS91.grown ab4_ hg (IsS91.own_neN HI0.out HO427.out (by decide))); replace HK := am (KeepBut.trans ab3_ (KeepBut.of_grown hg g) (Kd.N_base2 HO427.out)); have HO466 := am (ho); clear HO427 HO462 ho hb hg hat))
   go_ret
   exact ⟨_, ab11_, by (with_reducible repeat (first | apply Kd.N_alloc | apply Kd.N_drewN | apply Kd.N_drew)); exact Kd.N_mono HO466.out (fun _ hk => hk.1), ab4_, ab5_, ab3_⟩
  rw [if_neg c28] at H
  exact absurd H (by simp)
 rw [if_neg c26] at H
 have c26b0 : (t429 == 2) = false := beq_eq_false_iff_ne.mpr c26
 have c26b1 : (t429 != 2) = true := bne_iff_ne.mpr c26
 by_cases c34 : t429 = 3
 ·rw [if_pos c34] at H
  have c34b0 : (t429 == 3) = true := beq_iff_eq.mpr c34
  have c34b1 : (t429 != 3) = false := bne_eq_false_iff_eq.mpr c34
  clear c34
  by_cases c35 : t425.length < 1256584717458
  ·rw [if_pos c35] at H
   have LMc35 := am c35
   clear c35
   obtain ⟨y467, hy467⟩ : ∃ y_ : List (S35), y_ = (t425 ++ [(⟨6, 1, 0, (⟨0, 0, ([] : List (S32))⟩ : S32), ([] : List (S35)), ([] : List (S35))⟩ : S35)]) := ⟨_, rfl⟩
   replace H : (some (y467, t430)) = some (r1, r2) := by first | (rw [hy467]; with_reducible exact H) | (have H2_ := (Option.bind_some _ _).symm.trans H; rw [hy467]; with_reducible exact H2_) | (have H2_ := (Option.bind_some _ _).symm.trans H; with_reducible exact H2_) | with_reducible exact H | (rw [hy467]; exact H) | exact H
   have Ny467 := am hy467
   clear hy467
   simp only [Option.some.injEq, Prod.mk.injEq] at H
   obtain ⟨rfl, rfl⟩ := H
   go_wp2_with (first | ((with_reducible refine gate_builtin (b := .append) (xs := #[.tmp 37, .tmp 39]) rfl ?_); at_builtin; refine Kd.N_append k35 w.heap.size rfl (.tmp 37) (.tmp 39) 23 35 (.agg #[(.int .i64 0), (.int .i64 0), (.int .i64 0), (.int .i64 0), (.int .i64 0), (.slice none 0 0), (.slice none 0 0), (.slice none 0 0)]) 112 rfl Try.underlying23 info35 rfl (by decide) (by omega) v426 t425 (⟨6, 1, 0, (⟨0, 0, ([] : List (S32))⟩ : S32), ([] : List (S35)), ([] : List (S35))⟩ : S35) [.int .i64 6, .int .i64 1, .int .i64 0, .int .i64 0, .int .i64 0, .slice none 0 0, .slice none 0 0, .slice none 0 0] (fun k_ => (w.heap.size ≤ k_) ∧ k_ ≠ g) (fun k_ => ((fun k_ => (w.heap.size ≤ k_) ∧ k_ ≠ g)) k_ ∧ some k_ ≠ (v426 : Value).ownBlock) rfl rfl ?aP (fun _ hk => hk) ?aF ?aO (Below.refl _ _) ?aS ?aL ?_; (case aP => exact (k35_mkF _ _ (⟨6, 1, 0, (⟨0, 0, ([] : List (S32))⟩ : S32), ([] : List (S35)), ([] : List (S35))⟩ : S35) (Nat.le_refl _) (Kd.F_nil _ _ _) (Nat.le_refl _) (Kd.F_nil _ _ _) (Nat.le_refl _) (Kd.F_nil _ _ _))); (case aF => exact (fun k_ hk => ⟨(Nat.le_trans (keep_size (w := w) (g := g) (row := none) ab3_) hk), IsS91.fresh ab4_ k_ hk⟩)); (case aO => exact (aN_ HO427.out)); (case aS => exact (keep_size (w := w) (g := g) (row := none) ab3_)); (case aL => have := LMc35.out; omega); intro v468 w38 ho hb hg hat; rw [← Ny467.out] at ho; replace HB := am (below_weaken ab5_ HL.out hb); replace HI0 := am (IsS91.grown ab4_ hg (IsS91.own_neN HI0.out HO427.out (by decide))); replace HK := am (KeepBut.trans ab3_ (KeepBut.of_grown hg g) (Kd.N_base2 HO427.out)); have HO469 := am (ho); clear HO427 ho hb hg hat))
   go_ret
   exact ⟨_, ab11_, by (with_reducible repeat (first | apply Kd.N_alloc | apply Kd.N_drewN | apply Kd.N_drew)); exact Kd.N_mono HO469.out (fun _ hk => hk.1), ab4_, ab5_, ab3_⟩
  rw [if_neg c35] at H
  exact absurd H (by simp)
 rw [if_neg c34] at H
 have c34b0 : (t429 == 3) = false := beq_eq_false_iff_ne.mpr c34
 have c34b1 : (t429 != 3) = true := bne_iff_ne.mpr c34
 by_cases c39 : t429 = 4
 ·rw [if_pos c39] at H
  have c39b0 : (t429 == 4) = true := beq_iff_eq.mpr c39
  have c39b1 : (t429 != 4) = false := bne_eq_false_iff_eq.mpr c39
  clear c39
  obtain ⟨⟨t470, t471, t472, t473, t474, t475, t478, t481, t484⟩, A400, H⟩ := bsm H
  (try dsimp only at H)
  have A40 := am A400
  clear A400
  obtain ⟨y486, hy486⟩ : ∃ y_ : List (S35), y_ = (([(⟨2, 0, 0, (⟨0, 0, ([] : List (S32))⟩ : S32), ([] : List (S35)), ([] : List (S35))⟩ : S35)] : List (S35))) := ⟨_, rfl⟩
  replace H : (if t425.length < 1256584717458 then (some ((t425 ++ [(⟨t470, t471, t472, (⟨t473, t474, t475⟩ : S32), (([(⟨2, 0, 0, (⟨0, 0, ([] : List (S32))⟩ : S32), (([(⟨2, 0, 0, (⟨0, 0, ([] : List (S32))⟩ : S32), y486, ([] : List (S35))⟩ : S35)] : List (S35))), ([] : List (S35))⟩ : S35)] : List (S35))), t481⟩ : S35)]), t484)) else (none)) = some (r1, r2) := by first | (rw [hy486]; with_reducible exact H) | (have H2_ := (Option.bind_some _ _).symm.trans H; rw [hy486]; with_reducible exact H2_) | (have H2_ := (Option.bind_some _ _).symm.trans H; with_reducible exact H2_) | with_reducible exact H | (rw [hy486]; exact H) | exact H
  have Ny486 := am hy486
  clear hy486
  obtain ⟨y489, hy489⟩ : ∃ y_ : List (S35), y_ = (([(⟨2, 0, 0, (⟨0, 0, ([] : List (S32))⟩ : S32), y486, ([] : List (S35))⟩ : S35)] : List (S35))) := ⟨_, rfl⟩
  replace H : (if t425.length < 1256584717458 then (some ((t425 ++ [(⟨t470, t471, t472, (⟨t473, t474, t475⟩ : S32), (([(⟨2, 0, 0, (⟨0, 0, ([] : List (S32))⟩ : S32), y489, ([] : List (S35))⟩ : S35)] : List (S35))), t481⟩ : S35)]), t484)) else (none)) = some (r1, r2) := by first | (rw [hy489]; with_reducible exact H) | (have H2_ := (Option.bind_some _ _).symm.trans H; rw [hy489]; with_reducible exact H2_) | (have H2_ := (Option.bind_some _ _).symm.trans H; with_reducible exact H2_) | with_reducible exact H | (rw [hy489]; exact H) | exact H
  have Ny489 := am hy489
  clear hy489
  obtain ⟨y492, hy492⟩ : ∃ y_ : List (S35), y_ = (([(⟨2, 0, 0, (⟨0, 0, ([] : List (S32))⟩ : S32), y489, ([] : List (S35))⟩ : S35)] : List (S35))) := ⟨_, rfl⟩
  replace H : (if t425.length < 1256584717458 then (some ((t425 ++ [(⟨t470, t471, t472, (⟨t473, t474, t475⟩ : S32), y492, t481⟩ : S35)]), t484)) else (none)) = some (r1, r2) := by first | (rw [hy492]; with_reducible exact H) | (have H2_ := (Option.bind_some _ _).symm.trans H; rw [hy492]; with_reducible exact H2_) | (have H2_ := (Option.bind_some _ _).symm.trans H; with_reducible exact H2_) | with_reducible exact H | (rw [hy492]; exact H) | exact H
  have Ny492 := am hy492
  clear hy492
  by_cases c41 : t425.length < 1256584717458
  ·rw [if_pos c41] at H
   have LMc41 := am c41
   clear c41
   obtain ⟨y495, hy495⟩ : ∃ y_ : List (S35), y_ = (t425 ++ [(⟨t470, t471, t472, (⟨t473, t474, t475⟩ : S32), y492, t481⟩ : S35)]) := ⟨_, rfl⟩
   replace H : (some (y495, t484)) = some (r1, r2) := by first | (rw [hy495]; with_reducible exact H) | (have H2_ := (Option.bind_some _ _).symm.trans H; rw [hy495]; with_reducible exact H2_) | (have H2_ := (Option.bind_some _ _).symm.trans H; with_reducible exact H2_) | with_reducible exact H | (rw [hy495]; exact H) | exact H
   have Ny495 := am hy495
   clear hy495
   simp only [Option.some.injEq, Prod.mk.injEq] at H
   obtain ⟨rfl, rfl⟩ := H
   go_wp2_with (first | ((with_reducible refine gate_callee (f := 42) rfl ?_); refine goesL_ (some 44) rfl rfl Try.func42 (by kernel_rfl) rfl #[.pointer (some ⟨g, 0, none⟩), .int .i64 1, .int .i64 1, .bool false] rfl ab1_ ?_; (with_reducible refine (spec_l92If.calls k g s0_0 t430 1 1 false t470 t471 t472 t473 t474 t475 t478 t481 t484 w0 _ ?side1 ?side2 A40.out).mono ?_); (case side1 => exact ab4_); (case side2 => exact ab5_); rintro e w44 ⟨v476, v479, v482, rfl, ho0, ho1, ho2, hi, hb, hk⟩; refine ⟨_, rfl, ?_⟩; have HO477 := am (Kd.N_lower (Kd.N_mono (ok' := fun k_ => (w.heap.size ≤ k_) ∧ some k_ ≠ (v479 : Value).ownBlock ∧ some k_ ≠ (v482 : Value).ownBlock ∧ some k_ ≠ (v426 : Value).ownBlock ∧ k_ ≠ g) ho0 (fun k_ hk_ => ⟨(Nat.le_trans (keep_size (w := w) (g := g) (row := none) ab3_) hk_.1), hk_.2.1, hk_.2.2, (Kd.fresh' (Kd.N_lt (aN_ HO427.out)) k_ hk_.1), (IsS91.fresh ab4_ k_ hk_.1)⟩)) (keep_size (w := w) (g := g) (row := none) ab3_)); have HO480 := am (Kd.N_lower (Kd.N_mono (ok' := fun k_ => (w.heap.size ≤ k_) ∧ some k_ ≠ (v476 : Value).ownBlock ∧ some k_ ≠ (v482 : Value).ownBlock ∧ some k_ ≠ (v426 : Value).ownBlock ∧ k_ ≠ g) ho1 (fun k_ hk_ => ⟨(Nat.le_trans (keep_size (w := w) (g := g) (row := none) ab3_) hk_.1), hk_.2.1, hk_.2.2, (Kd.fresh' (Kd.N_lt (aN_ HO427.out)) k_ hk_.1), (IsS91.fresh ab4_ k_ hk_.1)⟩)) (keep_size (w := w) (g := g) (row := none) ab3_)); have HO483 := am (Kd.N_lower (Kd.N_mono (ok' := fun k_ => (w.heap.size ≤ k_) ∧ some k_ ≠ (v476 : Value).ownBlock ∧ some k_ ≠ (v479 : Value).ownBlock ∧ some k_ ≠ (v426 : Value).ownBlock ∧ k_ ≠ g) ho2 (fun k_ hk_ => ⟨(Nat.le_trans (keep_size (w := w) (g := g) (row := none) ab3_) hk_.1), hk_.2.1, hk_.2.2, (Kd.fresh' (Kd.N_lt (aN_ HO427.out)) k_ hk_.1), (IsS91.fresh ab4_ k_ hk_.1)⟩)) (keep_size (w := w) (g := g) (row := none) ab3_)); replace HO427 := am (Kd.N_mono (Kd.N_told (Kd.N_told (Kd.N_told (Kd.N_oldK (Kd.N_mono (ok := fun k_ => (((w.heap.size ≤ k_)) ∧ k_ ≠ g)) (aN_ HO427.out) (fun k_ hk_ => (⟨hk_, hk_.2⟩ : _ ∧ k_ ≠ g))) hk) (by first | exact Kd.N_base ho0 | exact Kd.N_base (Kd.R_N ho0))) (Kd.N_base ho1)) (Kd.N_base ho2)) (fun _ h_ => h_.1)); replace HK := am (KeepBut.trans ab3_ hk (.inl rfl)); replace HB := am (hb); replace HI0 := am (hi); (try clear hb); (try clear hb2); (try clear hk); (try clear hi); (try clear ho0); (try clear ho1); (try clear ho2)) | ((with_reducible refine gate_dst (N := 4) rfl ?_); refine box_event rfl (N := 4) rfl (cs := #[.int .i64 0, .int .i64 0, .int .i64 0, .int .i64 0, .int .i64 0, .slice none 0 0, .slice none 0 0, .slice none 0 0]) (t := 35) rn_ ?_; intro gb485 hg w45 hbox hb; replace HO427 := am (Kd.N_below (Kd.N_elderB (aN_ HO427.out) gb485 (Nat.le_of_eq hg.symm)) hb); replace HO477 := am (Kd.N_below (Kd.N_elderB (aN_ HO477.out) gb485 (Nat.le_of_eq hg.symm)) hb); replace HO480 := am (Kd.N_below (Kd.N_elderB (aN_ HO480.out) gb485 (Nat.le_of_eq hg.symm)) hb); replace HO483 := am (Kd.N_below (Kd.N_elderB (aN_ HO483.out) gb485 (Nat.le_of_eq hg.symm)) hb); replace HB := am (below_step ab5_ hb); have BK485 := am (hbox); have GW485 := am ((by rw [hg]; exact (keep_size (w := w) (g := g) (row := none) ab3_) : w.heap.size ≤ gb485)); have GE485 := am ((Nat.le_trans HW0.out (by rw [hg]; exact (keep_size (w := w) (g := g) (row := none) ab3_) : w.heap.size ≤ gb485) : w0.heap.size ≤ gb485)); replace HK := am (KeepBut.trans ab3_ (KeepBut.of_below hb g none) (.inl rfl)); have NB0_485 := am ((by rw [hg]; exact Nat.ne_of_lt (IsS91.lt (show IsS91 w0 _ g s0_0 t484 from by repeat (first | (with_reducible first | exact HI0.out | apply IsS91.alloc | apply IsS91.drewN | apply IsS91.drew | apply IsS91.set_1) | exact HI0.out))) : g ≠ gb485)); have NB485_0 := am ((by rw [hg]; exact Nat.ne_of_gt (IsS91.lt (show IsS91 w0 _ g s0_0 t484 from by repeat (first | (with_reducible first | exact HI0.out | apply IsS91.alloc | apply IsS91.drewN | apply IsS91.drew | apply IsS91.set_1) | exact HI0.out))) : gb485 ≠ g)); replace HI0 := am (IsS91.below ab4_ hb); clear hb hbox hg; have hnb46 := NB485_0.out; have hnc46 := NB0_485.out; obtain ⟨hcz47_0, hcz47_1, hcz47_2, hcz47_3, hcz47_4, hcz47_5, hcz47_6, hcz47_7, hfz47_0, hfz47_1, hfz47_2, hfz47_3, hfz47_4, hfz47_5, hfz47_6, hfz47_7⟩ := bcf8_ BK485.out; obtain ⟨Ao48, co48, eo48⟩ := Kd.N_slice HO477.out; subst eo48; obtain ⟨Ao49, co49, eo49⟩ := Kd.N_slice HO480.out; subst eo49; obtain ⟨Ao50, co50, eo50⟩ := Kd.N_slice HO483.out; subst eo50) | ((with_reducible refine gate_dst (N := 46) rfl ?_); refine Kd.N_lit k35 _ 35 ?hg (N' := 46) ?hd (xs := ([(⟨2, 0, 0, (⟨0, 0, ([] : List (S32))⟩ : S32), ([] : List (S35)), ([] : List (S35))⟩ : S35)] : List (S35))) (inner := [.int .i64 2, .int .i64 0, .int .i64 0, .int .i64 0, .int .i64 0, .slice none 0 0, .slice none 0 0, .slice none 0 0]) (ok := (fun k_ => (w.heap.size ≤ k_) ∧ some k_ ≠ (v426 : Value).ownBlock ∧ some k_ ≠ (.slice Ao48 t475.length co48 : Value).ownBlock ∧ some k_ ≠ (.slice Ao49 t478.length co49 : Value).ownBlock ∧ some k_ ≠ (.slice Ao50 t481.length co50 : Value).ownBlock ∧ k_ ≠ gb485 ∧ k_ ≠ g)) (okp := (fun k_ => (w.heap.size ≤ k_) ∧ some k_ ≠ (v426 : Value).ownBlock ∧ some k_ ≠ (.slice Ao48 t475.length co48 : Value).ownBlock ∧ some k_ ≠ (.slice Ao49 t478.length co49 : Value).ownBlock ∧ some k_ ≠ (.slice Ao50 t481.length co50 : Value).ownBlock ∧ k_ ≠ gb485 ∧ k_ ≠ g)) ?hr ?hp (fun _ hk => hk) ((show ∀ k_, ((((((((w45.setCell ⟨gb485, 0, none⟩ (.int .i64 t470)).setCell ⟨gb485, 1, none⟩ (.int .i64 t471)).setCell ⟨gb485, 2, none⟩ (.int .i64 t472)).setCell ⟨gb485, 3, none⟩ (.int .i64 t473)).setCell ⟨gb485, 4, none⟩ (.int .i64 t474)).setCell ⟨gb485, 5, none⟩ (.slice Ao48 t475.length co48)).setCell ⟨gb485, 6, none⟩ (.slice Ao49 t478.length co49)).setCell ⟨gb485, 7, none⟩ (.slice Ao50 t481.length co50)).heap.size ≤ k_ → (fun k_ => (w.heap.size ≤ k_) ∧ some k_ ≠ (v426 : Value).ownBlock ∧ some k_ ≠ (.slice Ao48 t475.length co48 : Value).ownBlock ∧ some k_ ≠ (.slice Ao49 t478.length co49 : Value).ownBlock ∧ some k_ ≠ (.slice Ao50 t481.length co50 : Value).ownBlock ∧ k_ ≠ gb485 ∧ k_ ≠ g) k_ from fun k_ hk => ⟨(Nat.le_trans (keep_size (w := w) (g := g) (row := none) ab26_) hk), Kd.fresh' (Kd.N_lt (by (with_reducible repeat (first | apply Kd.N_alloc | apply Kd.N_drewN | apply Kd.N_drew)); exact (Kd.N_mono (Kd.N_far (p := ⟨gb485, 7, none⟩) (Kd.N_far (p := ⟨gb485, 6, none⟩) (Kd.N_far (p := ⟨gb485, 5, none⟩) (Kd.N_far (p := ⟨gb485, 4, none⟩) (Kd.N_far (p := ⟨gb485, 3, none⟩) (Kd.N_far (p := ⟨gb485, 2, none⟩) (Kd.N_far (p := ⟨gb485, 1, none⟩) (Kd.N_far (p := ⟨gb485, 0, none⟩) (Kd.N_mono HO427.out (fun k_ hk => (⟨hk, hk.2⟩ : _ ∧ k_ ≠ gb485))) (fun _ hk => hk.2) (.int .i64 t470)) (fun _ hk => hk.2) (.int .i64 t471)) (fun _ hk => hk.2) (.int .i64 t472)) (fun _ hk => hk.2) (.int .i64 t473)) (fun _ hk => hk.2) (.int .i64 t474)) (fun _ hk => hk.2) (.slice Ao48 t475.length co48)) (fun _ hk => hk.2) (.slice Ao49 t478.length co49)) (fun _ hk => hk.2) (.slice Ao50 t481.length co50)) (fun _ h_ => h_.1)))) k_ hk, Kd.fresh' (Kd.N_lt (by (with_reducible repeat (first | apply Kd.N_alloc | apply Kd.N_drewN | apply Kd.N_drew)); exact (Kd.N_mono (Kd.N_far (p := ⟨gb485, 7, none⟩) (Kd.N_far (p := ⟨gb485, 6, none⟩) (Kd.N_far (p := ⟨gb485, 5, none⟩) (Kd.N_far (p := ⟨gb485, 4, none⟩) (Kd.N_far (p := ⟨gb485, 3, none⟩) (Kd.N_far (p := ⟨gb485, 2, none⟩) (Kd.N_far (p := ⟨gb485, 1, none⟩) (Kd.N_far (p := ⟨gb485, 0, none⟩) (Kd.N_mono HO477.out (fun k_ hk => (⟨hk, hk.2⟩ : _ ∧ k_ ≠ gb485))) (fun _ hk => hk.2) (.int .i64 t470)) (fun _ hk => hk.2) (.int .i64 t471)) (fun _ hk => hk.2) (.int .i64 t472)) (fun _ hk => hk.2) (.int .i64 t473)) (fun _ hk => hk.2) (.int .i64 t474)) (fun _ hk => hk.2) (.slice Ao48 t475.length co48)) (fun _ hk => hk.2) (.slice Ao49 t478.length co49)) (fun _ hk => hk.2) (.slice Ao50 t481.length co50)) (fun _ h_ => h_.1)))) k_ hk, Kd.fresh' (Kd.N_lt (by (with_reducible repeat (first | apply Kd.N_alloc | apply Kd.N_drewN | apply Kd.N_drew)); exact (Kd.N_mono (Kd.N_far (p := ⟨gb485, 7, none⟩) (Kd.N_far (p := ⟨gb485, 6, none⟩) (Kd.N_far (p := ⟨gb485, 5, none⟩) (Kd.N_far (p := ⟨gb485, 4, none⟩) (Kd.N_far (p := ⟨gb485, 3, none⟩) (Kd.N_far (p := ⟨gb485, 2, none⟩) (Kd.N_far (p := ⟨gb485, 1, none⟩) (Kd.N_far (p := ⟨gb485, 0, none⟩) (Kd.N_mono HO480.out (fun k_ hk => (⟨hk, hk.2⟩ : _ ∧ k_ ≠ gb485))) (fun _ hk => hk.2) (.int .i64 t470)) (fun _ hk => hk.2) (.int .i64 t471)) (fun _ hk => hk.2) (.int .i64 t472)) (fun _ hk => hk.2) (.int .i64 t473)) (fun _ hk => hk.2) (.int .i64 t474)) (fun _ hk => hk.2) (.slice Ao48 t475.length co48)) (fun _ hk => hk.2) (.slice Ao49 t478.length co49)) (fun _ hk => hk.2) (.slice Ao50 t481.length co50)) (fun _ h_ => h_.1)))) k_ hk, Kd.fresh' (Kd.N_lt (by (with_reducible repeat (first | apply Kd.N_alloc | apply Kd.N_drewN | apply Kd.N_drew)); exact (Kd.N_mono (Kd.N_far (p := ⟨gb485, 7, none⟩) (Kd.N_far (p := ⟨gb485, 6, none⟩) (Kd.N_far (p := ⟨gb485, 5, none⟩) (Kd.N_far (p := ⟨gb485, 4, none⟩) (Kd.N_far (p := ⟨gb485, 3, none⟩) (Kd.N_far (p := ⟨gb485, 2, none⟩) (Kd.N_far (p := ⟨gb485, 1, none⟩) (Kd.N_far (p := ⟨gb485, 0, none⟩) (Kd.N_mono HO483.out (fun k_ hk => (⟨hk, hk.2⟩ : _ ∧ k_ ≠ gb485))) (fun _ hk => hk.2) (.int .i64 t470)) (fun _ hk => hk.2) (.int .i64 t471)) (fun _ hk => hk.2) (.int .i64 t472)) (fun _ hk => hk.2) (.int .i64 t473)) (fun _ hk => hk.2) (.int .i64 t474)) (fun _ hk => hk.2) (.slice Ao48 t475.length co48)) (fun _ hk => hk.2) (.slice Ao49 t478.length co49)) (fun _ hk => hk.2) (.slice Ao50 t481.length co50)) (fun _ h_ => h_.1)))) k_ hk, Kd.freshB (g := gb485) (o := .cells #[.int .i64 t470, .int .i64 t471, .int .i64 t472, .int .i64 t473, .int .i64 t474, .slice Ao48 t475.length co48, .slice Ao49 t478.length co49, .slice Ao50 t481.length co50] 35 (0, 0)) (blk_put (blk_put (blk_put (blk_put (blk_put (blk_put (blk_put (blk_put BK485.out 0 _ rfl) 1 _ rfl) 2 _ rfl) 3 _ rfl) 4 _ rfl) 5 _ rfl) 6 _ rfl) 7 _ rfl) k_ hk, IsS91.fresh ab40_ k_ hk⟩) _ (Nat.le_refl _)) (Below.refl _ _) (Nat.le_refl _) (by simp) ?_; (case hd => rfl); (case hg => rfl); (case hr => first | (go_simp; done) | (go_simp; rfl)); (case hp => exact (Reps.c8 (show Kd.FK k35 _ _ (⟨2, 0, 0, (⟨0, 0, ([] : List (S32))⟩ : S32), ([] : List (S35)), ([] : List (S35))⟩ : S35) [.int .i64 2, .int .i64 0, .int .i64 0, .int .i64 0, .int .i64 0, .slice none 0 0, .slice none 0 0, .slice none 0 0] from (k35_mkF _ _ (⟨2, 0, 0, (⟨0, 0, ([] : List (S32))⟩ : S32), ([] : List (S35)), ([] : List (S35))⟩ : S35) (Nat.le_refl _) (Kd.F_nil _ _ _) (Nat.le_refl _) (Kd.F_nil _ _ _) (Nat.le_refl _) (Kd.F_nil _ _ _))) (Reps.none _ _))); intro v487 w51 ho52 hb hg_ hnew_; clear hg_ hnew_; (first | rw [← Ny486.out] at ho52 | (simp only [Int.reduceToNat] at ho52; rw [← Ny486.out] at ho52)); replace HO427 := am (Kd.N_elder' (by (with_reducible repeat (first | apply Kd.N_alloc | apply Kd.N_drewN | apply Kd.N_drew)); exact (Kd.N_mono (Kd.N_far (p := ⟨gb485, 7, none⟩) (Kd.N_far (p := ⟨gb485, 6, none⟩) (Kd.N_far (p := ⟨gb485, 5, none⟩) (Kd.N_far (p := ⟨gb485, 4, none⟩) (Kd.N_far (p := ⟨gb485, 3, none⟩) (Kd.N_far (p := ⟨gb485, 2, none⟩) (Kd.N_far (p := ⟨gb485, 1, none⟩) (Kd.N_far (p := ⟨gb485, 0, none⟩) (Kd.N_mono HO427.out (fun k_ hk => (⟨hk, hk.2⟩ : _ ∧ k_ ≠ gb485))) (fun _ hk => hk.2) (.int .i64 t470)) (fun _ hk => hk.2) (.int .i64 t471)) (fun _ hk => hk.2) (.int .i64 t472)) (fun _ hk => hk.2) (.int .i64 t473)) (fun _ hk => hk.2) (.int .i64 t474)) (fun _ hk => hk.2) (.slice Ao48 t475.length co48)) (fun _ hk => hk.2) (.slice Ao49 t478.length co49)) (fun _ hk => hk.2) (.slice Ao50 t481.length co50)) (fun _ h_ => h_.1))) (Kd.N_base ho52) hb); replace HO477 := am (Kd.N_elder' (by (with_reducible repeat (first | apply Kd.N_alloc | apply Kd.N_drewN | apply Kd.N_drew)); exact (Kd.N_mono (Kd.N_far (p := ⟨gb485, 7, none⟩) (Kd.N_far (p := ⟨gb485, 6, none⟩) (Kd.N_far (p := ⟨gb485, 5, none⟩) (Kd.N_far (p := ⟨gb485, 4, none⟩) (Kd.N_far (p := ⟨gb485, 3, none⟩) (Kd.N_far (p := ⟨gb485, 2, none⟩) (Kd.N_far (p := ⟨gb485, 1, none⟩) (Kd.N_far (p := ⟨gb485, 0, none⟩) (Kd.N_mono HO477.out (fun k_ hk => (⟨hk, hk.2⟩ : _ ∧ k_ ≠ gb485))) (fun _ hk => hk.2) (.int .i64 t470)) (fun _ hk => hk.2) (.int .i64 t471)) (fun _ hk => hk.2) (.int .i64 t472)) (fun _ hk => hk.2) (.int .i64 t473)) (fun _ hk => hk.2) (.int .i64 t474)) (fun _ hk => hk.2) (.slice Ao48 t475.length co48)) (fun _ hk => hk.2) (.slice Ao49 t478.length co49)) (fun _ hk => hk.2) (.slice Ao50 t481.length co50)) (fun _ h_ => h_.1))) (Kd.N_base ho52) hb); replace HO480 := am (Kd.N_elder' (by (with_reducible repeat (first | apply Kd.N_alloc | apply Kd.N_drewN | apply Kd.N_drew)); exact (Kd.N_mono (Kd.N_far (p := ⟨gb485, 7, none⟩) (Kd.N_far (p := ⟨gb485, 6, none⟩) (Kd.N_far (p := ⟨gb485, 5, none⟩) (Kd.N_far (p := ⟨gb485, 4, none⟩) (Kd.N_far (p := ⟨gb485, 3, none⟩) (Kd.N_far (p := ⟨gb485, 2, none⟩) (Kd.N_far (p := ⟨gb485, 1, none⟩) (Kd.N_far (p := ⟨gb485, 0, none⟩) (Kd.N_mono HO480.out (fun k_ hk => (⟨hk, hk.2⟩ : _ ∧ k_ ≠ gb485))) (fun _ hk => hk.2) (.int .i64 t470)) (fun _ hk => hk.2) (.int .i64 t471)) (fun _ hk => hk.2) (.int .i64 t472)) (fun _ hk => hk.2) (.int .i64 t473)) (fun _ hk => hk.2) (.int .i64 t474)) (fun _ hk => hk.2) (.slice Ao48 t475.length co48)) (fun _ hk => hk.2) (.slice Ao49 t478.length co49)) (fun _ hk => hk.2) (.slice Ao50 t481.length co50)) (fun _ h_ => h_.1))) (Kd.N_base ho52) hb); replace HO483 := am (Kd.N_elder' (by (with_reducible repeat (first | apply Kd.N_alloc | apply Kd.N_drewN | apply Kd.N_drew)); exact (Kd.N_mono (Kd.N_far (p := ⟨gb485, 7, none⟩) (Kd.N_far (p := ⟨gb485, 6, none⟩) (Kd.N_far (p := ⟨gb485, 5, none⟩) (Kd.N_far (p := ⟨gb485, 4, none⟩) (Kd.N_far (p := ⟨gb485, 3, none⟩) (Kd.N_far (p := ⟨gb485, 2, none⟩) (Kd.N_far (p := ⟨gb485, 1, none⟩) (Kd.N_far (p := ⟨gb485, 0, none⟩) (Kd.N_mono HO483.out (fun k_ hk => (⟨hk, hk.2⟩ : _ ∧ k_ ≠ gb485))) (fun _ hk => hk.2) (.int .i64 t470)) (fun _ hk => hk.2) (.int .i64 t471)) (fun _ hk => hk.2) (.int .i64 t472)) (fun _ hk => hk.2) (.int .i64 t473)) (fun _ hk => hk.2) (.int .i64 t474)) (fun _ hk => hk.2) (.slice Ao48 t475.length co48)) (fun _ hk => hk.2) (.slice Ao49 t478.length co49)) (fun _ hk => hk.2) (.slice Ao50 t481.length co50)) (fun _ h_ => h_.1))) (Kd.N_base ho52) hb); have HO488 := am (Kd.N_lower ho52 (keep_size (w := w) (g := g) (row := none) ab26_)); replace BK485 := am (blk_below (g := gb485) (o := .cells #[.int .i64 t470, .int .i64 t471, .int .i64 t472, .int .i64 t473, .int .i64 t474, .slice Ao48 t475.length co48, .slice Ao49 t478.length co49, .slice Ao50 t481.length co50] 35 (0, 0)) (blk_put (blk_put (blk_put (blk_put (blk_put (blk_put (blk_put (blk_put BK485.out 0 _ rfl) 1 _ rfl) 2 _ rfl) 3 _ rfl) 4 _ rfl) 5 _ rfl) 6 _ rfl) 7 _ rfl) hb); replace HK := am (KeepBut.trans ab26_ (KeepBut.of_below hb g none) (.inl rfl)); replace HB := am (below_step ab51_ hb); replace HI0 := am (IsS91.below (show IsS91 w0 ((((((((w45.setCell ⟨gb485, 0, none⟩ (.int .i64 t470)).setCell ⟨gb485, 1, none⟩ (.int .i64 t471)).setCell ⟨gb485, 2, none⟩ (.int .i64 t472)).setCell ⟨gb485, 3, none⟩ (.int .i64 t473)).setCell ⟨gb485, 4, none⟩ (.int .i64 t474)).setCell ⟨gb485, 5, none⟩ (.slice Ao48 t475.length co48)).setCell ⟨gb485, 6, none⟩ (.slice Ao49 t478.length co49)).setCell ⟨gb485, 7, none⟩ (.slice Ao50 t481.length co50)) g s0_0 t484 from by repeat (first | (with_reducible first | exact HI0.out | apply IsS91.alloc | apply IsS91.drewN | apply IsS91.drew | apply IsS91.set_1 | refine IsS91.far ?_ NB0_485.out _) | exact HI0.out)) hb); clear hb ho52; obtain ⟨Ao53, co53, eo53⟩ := Kd.N_slice HO488.out; subst eo53) | ((with_reducible refine gate_dst (N := 48) rfl ?_); refine Kd.N_lit k35 _ 35 rfl (N' := 48) rfl (xs := ([(⟨2, 0, 0, (⟨0, 0, ([] : List (S32))⟩ : S32), y486, ([] : List (S35))⟩ : S35)] : List (S35))) (inner := [.int .i64 2, .int .i64 0, .int .i64 0, .int .i64 0, .int .i64 0, .slice none 0 0, .slice Ao53 y486.length co53, .slice none 0 0]) (ok := (fun k_ => (w.heap.size ≤ k_) ∧ some k_ ≠ (v426 : Value).ownBlock ∧ some k_ ≠ (.slice Ao48 t475.length co48 : Value).ownBlock ∧ some k_ ≠ (.slice Ao49 t478.length co49 : Value).ownBlock ∧ some k_ ≠ (.slice Ao50 t481.length co50 : Value).ownBlock ∧ k_ ≠ gb485 ∧ k_ ≠ g)) (okp := (fun k_ => (w.heap.size ≤ k_) ∧ some k_ ≠ (v426 : Value).ownBlock ∧ some k_ ≠ (.slice Ao48 t475.length co48 : Value).ownBlock ∧ some k_ ≠ (.slice Ao49 t478.length co49 : Value).ownBlock ∧ some k_ ≠ (.slice Ao50 t481.length co50 : Value).ownBlock ∧ k_ ≠ gb485 ∧ k_ ≠ g)) rn_ ?hp (fun _ hk => hk) ((show ∀ k_, w51.heap.size ≤ k_ → (fun k_ => (w.heap.size ≤ k_) ∧ some k_ ≠ (v426 : Value).ownBlock ∧ some k_ ≠ (.slice Ao48 t475.length co48 : Value).ownBlock ∧ some k_ ≠ (.slice Ao49 t478.length co49 : Value).ownBlock ∧ some k_ ≠ (.slice Ao50 t481.length co50 : Value).ownBlock ∧ k_ ≠ gb485 ∧ k_ ≠ g) k_ from fun k_ hk => ⟨(Nat.le_trans (keep_size (w := w) (g := g) (row := none) ab26_) hk), Kd.fresh' (Kd.N_lt (aN_ HO427.out)) k_ hk, Kd.fresh' (Kd.N_lt (aN_ HO477.out)) k_ hk, Kd.fresh' (Kd.N_lt (aN_ HO480.out)) k_ hk, Kd.fresh' (Kd.N_lt (aN_ HO483.out)) k_ hk, Kd.freshB (g := gb485) (o := .cells #[.int .i64 t470, .int .i64 t471, .int .i64 t472, .int .i64 t473, .int .i64 t474, .slice Ao48 t475.length co48, .slice Ao49 t478.length co49, .slice Ao50 t481.length co50] 35 (0, 0)) (aG_ BK485.out) k_ hk, IsS91.fresh ab40_ k_ hk⟩) _ (Nat.le_refl _)) (Below.refl _ _) (Nat.le_refl _) (by simp) ?_; (case hp => exact (Reps.c8 (show Kd.FK k35 _ _ (⟨2, 0, 0, (⟨0, 0, ([] : List (S32))⟩ : S32), y486, ([] : List (S35))⟩ : S35) [.int .i64 2, .int .i64 0, .int .i64 0, .int .i64 0, .int .i64 0, .slice none 0 0, .slice Ao53 y486.length co53, .slice none 0 0] from (k35_mkF _ _ (⟨2, 0, 0, (⟨0, 0, ([] : List (S32))⟩ : S32), y486, ([] : List (S35))⟩ : S35) (Nat.le_refl _) (Kd.F_nil _ _ _) (Kd.N_reads' (Kd.N_mono (ok' := (fun k_ => (w.heap.size ≤ k_) ∧ some k_ ≠ (v426 : Value).ownBlock ∧ some k_ ≠ (.slice Ao48 t475.length co48 : Value).ownBlock ∧ some k_ ≠ (.slice Ao49 t478.length co49 : Value).ownBlock ∧ some k_ ≠ (.slice Ao50 t481.length co50 : Value).ownBlock ∧ k_ ≠ gb485 ∧ k_ ≠ g)) (HO488.out) (fun k_ hk => ⟨hk.1, ⟨hk.2.1, ⟨hk.2.2.1, ⟨hk.2.2.2.1, ⟨hk.2.2.2.2.1, ⟨hk.2.2.2.2.2.1, hk.2.2.2.2.2.2⟩⟩⟩⟩⟩⟩))).2.1 (Kd.N_F (Kd.N_mono (ok' := (fun k_ => (w.heap.size ≤ k_) ∧ some k_ ≠ (v426 : Value).ownBlock ∧ some k_ ≠ (.slice Ao48 t475.length co48 : Value).ownBlock ∧ some k_ ≠ (.slice Ao49 t478.length co49 : Value).ownBlock ∧ some k_ ≠ (.slice Ao50 t481.length co50 : Value).ownBlock ∧ k_ ≠ gb485 ∧ k_ ≠ g)) (HO488.out) (fun k_ hk => ⟨hk.1, ⟨hk.2.1, ⟨hk.2.2.1, ⟨hk.2.2.2.1, ⟨hk.2.2.2.2.1, ⟨hk.2.2.2.2.2.1, hk.2.2.2.2.2.2⟩⟩⟩⟩⟩⟩))) (Nat.le_refl _) (Kd.F_nil _ _ _))) (Reps.none _ _))); intro v490 w54 ho55 hb hg_ hnew_; clear hg_ hnew_; (first | rw [← Ny489.out] at ho55 | (simp only [Int.reduceToNat] at ho55; rw [← Ny489.out] at ho55)); replace HO427 := am (Kd.N_elder' (aN_ HO427.out) (Kd.N_base ho55) hb); replace HO477 := am (Kd.N_elder' (aN_ HO477.out) (Kd.N_base ho55) hb); replace HO480 := am (Kd.N_elder' (aN_ HO480.out) (Kd.N_base ho55) hb); replace HO483 := am (Kd.N_elder' (aN_ HO483.out) (Kd.N_base ho55) hb); have HO491 := am (Kd.N_lower ho55 (keep_size (w := w) (g := g) (row := none) ab26_)); replace BK485 := am (blk_below (g := gb485) (o := .cells #[.int .i64 t470, .int .i64 t471, .int .i64 t472, .int .i64 t473, .int .i64 t474, .slice Ao48 t475.length co48, .slice Ao49 t478.length co49, .slice Ao50 t481.length co50] 35 (0, 0)) (aG_ BK485.out) hb); replace HK := am (KeepBut.trans ab26_ (KeepBut.of_below hb g none) (.inl rfl)); replace HB := am (below_step ab51_ hb); replace HI0 := am (IsS91.below ab40_ hb); clear HO488 hb ho55; obtain ⟨Ao56, co56, eo56⟩ := Kd.N_slice HO491.out; subst eo56) | ((with_reducible refine gate_dst (N := 50) rfl ?_); refine Kd.N_lit k35 _ 35 rfl (N' := 50) rfl (xs := ([(⟨2, 0, 0, (⟨0, 0, ([] : List (S32))⟩ : S32), y489, ([] : List (S35))⟩ : S35)] : List (S35))) (inner := [.int .i64 2, .int .i64 0, .int .i64 0, .int .i64 0, .int .i64 0, .slice none 0 0, .slice Ao56 y489.length co56, .slice none 0 0]) (ok := (fun k_ => (w.heap.size ≤ k_) ∧ some k_ ≠ (v426 : Value).ownBlock ∧ some k_ ≠ (.slice Ao48 t475.length co48 : Value).ownBlock ∧ some k_ ≠ (.slice Ao49 t478.length co49 : Value).ownBlock ∧ some k_ ≠ (.slice Ao50 t481.length co50 : Value).ownBlock ∧ k_ ≠ gb485 ∧ k_ ≠ g)) (okp := (fun k_ => (w.heap.size ≤ k_) ∧ some k_ ≠ (v426 : Value).ownBlock ∧ some k_ ≠ (.slice Ao48 t475.length co48 : Value).ownBlock ∧ some k_ ≠ (.slice Ao49 t478.length co49 : Value).ownBlock ∧ some k_ ≠ (.slice Ao50 t481.length co50 : Value).ownBlock ∧ k_ ≠ gb485 ∧ k_ ≠ g)) rn_ ?hp (fun _ hk => hk) ((show ∀ k_, w54.heap.size ≤ k_ → (fun k_ => (w.heap.size ≤ k_) ∧ some k_ ≠ (v426 : Value).ownBlock ∧ some k_ ≠ (.slice Ao48 t475.length co48 : Value).ownBlock ∧ some k_ ≠ (.slice Ao49 t478.length co49 : Value).ownBlock ∧ some k_ ≠ (.slice Ao50 t481.length co50 : Value).ownBlock ∧ k_ ≠ gb485 ∧ k_ ≠ g) k_ from fun k_ hk => ⟨(Nat.le_trans (keep_size (w := w) (g := g) (row := none) ab26_) hk), Kd.fresh' (Kd.N_lt (aN_ HO427.out)) k_ hk, Kd.fresh' (Kd.N_lt (aN_ HO477.out)) k_ hk, Kd.fresh' (Kd.N_lt (aN_ HO480.out)) k_ hk, Kd.fresh' (Kd.N_lt (aN_ HO483.out)) k_ hk, Kd.freshB (g := gb485) (o := .cells #[.int .i64 t470, .int .i64 t471, .int .i64 t472, .int .i64 t473, .int .i64 t474, .slice Ao48 t475.length co48, .slice Ao49 t478.length co49, .slice Ao50 t481.length co50] 35 (0, 0)) (aG_ BK485.out) k_ hk, IsS91.fresh ab40_ k_ hk⟩) _ (Nat.le_refl _)) (Below.refl _ _) (Nat.le_refl _) (by simp) ?_; (case hp => exact (Reps.c8 (show Kd.FK k35 _ _ (⟨2, 0, 0, (⟨0, 0, ([] : List (S32))⟩ : S32), y489, ([] : List (S35))⟩ : S35) [.int .i64 2, .int .i64 0, .int .i64 0, .int .i64 0, .int .i64 0, .slice none 0 0, .slice Ao56 y489.length co56, .slice none 0 0] from (k35_mkF _ _ (⟨2, 0, 0, (⟨0, 0, ([] : List (S32))⟩ : S32), y489, ([] : List (S35))⟩ : S35) (Nat.le_refl _) (Kd.F_nil _ _ _) (Kd.N_reads' (Kd.N_mono (ok' := (fun k_ => (w.heap.size ≤ k_) ∧ some k_ ≠ (v426 : Value).ownBlock ∧ some k_ ≠ (.slice Ao48 t475.length co48 : Value).ownBlock ∧ some k_ ≠ (.slice Ao49 t478.length co49 : Value).ownBlock ∧ some k_ ≠ (.slice Ao50 t481.length co50 : Value).ownBlock ∧ k_ ≠ gb485 ∧ k_ ≠ g)) (HO491.out) (fun k_ hk => ⟨hk.1, ⟨hk.2.1, ⟨hk.2.2.1, ⟨hk.2.2.2.1, ⟨hk.2.2.2.2.1, ⟨hk.2.2.2.2.2.1, hk.2.2.2.2.2.2⟩⟩⟩⟩⟩⟩))).2.1 (Kd.N_F (Kd.N_mono (ok' := (fun k_ => (w.heap.size ≤ k_) ∧ some k_ ≠ (v426 : Value).ownBlock ∧ some k_ ≠ (.slice Ao48 t475.length co48 : Value).ownBlock ∧ some k_ ≠ (.slice Ao49 t478.length co49 : Value).ownBlock ∧ some k_ ≠ (.slice Ao50 t481.length co50 : Value).ownBlock ∧ k_ ≠ gb485 ∧ k_ ≠ g)) (HO491.out) (fun k_ hk => ⟨hk.1, ⟨hk.2.1, ⟨hk.2.2.1, ⟨hk.2.2.2.1, ⟨hk.2.2.2.2.1, ⟨hk.2.2.2.2.2.1, hk.2.2.2.2.2.2⟩⟩⟩⟩⟩⟩))) (Nat.le_refl _) (Kd.F_nil _ _ _))) (Reps.none _ _))); intro v493 w57 ho58 hb hg_ hnew_; clear hg_ hnew_; (first | rw [← Ny492.out] at ho58 | (simp only [Int.reduceToNat] at ho58; rw [← Ny492.out] at ho58)); replace HO427 := am (Kd.N_elder' (aN_ HO427.out) (Kd.N_base ho58) hb); replace HO477 := am (Kd.N_elder' (aN_ HO477.out) (Kd.N_base ho58) hb); replace HO480 := am (Kd.N_elder' (aN_ HO480.out) (Kd.N_base ho58) hb); replace HO483 := am (Kd.N_elder' (aN_ HO483.out) (Kd.N_base ho58) hb); have HO494 := am (Kd.N_lower ho58 (keep_size (w := w) (g := g) (row := none) ab26_)); replace BK485 := am (blk_below (g := gb485) (o := .cells #[.int .i64 t470, .int .i64 t471, .int .i64 t472, .int .i64 t473, .int .i64 t474, .slice Ao48 t475.length co48, .slice Ao49 t478.length co49, .slice Ao50 t481.length co50] 35 (0, 0)) (aG_ BK485.out) hb); replace HK := am (KeepBut.trans ab26_ (KeepBut.of_below hb g none) (.inl rfl)); replace HB := am (below_step ab51_ hb); replace HI0 := am (IsS91.below ab40_ hb); clear HO491 hb ho58; obtain ⟨Ao59, co59, eo59⟩ := Kd.N_slice HO494.out; subst eo59; obtain ⟨hcz60_0, hcz60_1, hcz60_2, hcz60_3, hcz60_4, hcz60_5, hcz60_6, hcz60_7, hfz60_0, hfz60_1, hfz60_2, hfz60_3, hfz60_4, hfz60_5, hfz60_6, hfz60_7⟩ := bcf8_ BK485.out) | ((with_reducible refine gate_store (t := 23) (p := 51) rfl ?_); refine store_event (t := 23) (p := 51) (v := ?vo_w61) (w1 := (w57.setCell ⟨gb485, 6, none⟩ (.slice Ao59 y492.length co59))) ?hg ?ho ?hn ?hr ?_; (case ho => rfl); (case hg => rfl); (case hn => rfl); (case hr => first | (go_simp; done) | (go_simp; rfl)); intro w61 hw; replace HO427 : Aside0 (Kd.N k35 35 w61 w.heap.size (fun k_ => (w.heap.size ≤ k_) ∧ some k_ ≠ (.slice Ao48 t475.length co48 : Value).ownBlock ∧ some k_ ≠ (.slice Ao49 t478.length co49 : Value).ownBlock ∧ some k_ ≠ (.slice Ao50 t481.length co50 : Value).ownBlock ∧ some k_ ≠ (.slice Ao59 y492.length co59 : Value).ownBlock ∧ k_ ≠ g ∧ k_ ≠ gb485) v426 t425) := ⟨(by rw [hw]; exact (by (with_reducible repeat (first | apply Kd.N_alloc | apply Kd.N_drewN | apply Kd.N_drew)); exact Kd.N_mono (Kd.N_far (p := ⟨gb485, 6, none⟩) (Kd.N_mono HO427.out (fun k_ hk => (⟨hk, hk.1.1.1.2⟩ : _ ∧ k_ ≠ gb485))) (fun _ hk => hk.2) (.slice Ao59 y492.length co59)) (fun _ hk => ⟨hk.1.1.1.1.1.1.1.1.1, ⟨hk.1.1.1.1.1.1.1.2, ⟨hk.1.1.1.1.1.1.2, ⟨hk.1.1.1.1.1.2, ⟨hk.1.2, ⟨hk.1.1.1.1.1.1.1.1.2, hk.1.1.1.1.2⟩⟩⟩⟩⟩⟩)))⟩; replace HO477 : Aside0 (Kd.N k32 32 w61 w.heap.size (fun k_ => (w.heap.size ≤ k_) ∧ some k_ ≠ (v426 : Value).ownBlock ∧ some k_ ≠ (.slice Ao49 t478.length co49 : Value).ownBlock ∧ some k_ ≠ (.slice Ao50 t481.length co50 : Value).ownBlock ∧ some k_ ≠ (.slice Ao59 y492.length co59 : Value).ownBlock ∧ k_ ≠ g ∧ k_ ≠ gb485) (.slice Ao48 t475.length co48) t475) := ⟨(by rw [hw]; exact (by (with_reducible repeat (first | apply Kd.N_alloc | apply Kd.N_drewN | apply Kd.N_drew)); exact Kd.N_mono (Kd.N_far (p := ⟨gb485, 6, none⟩) (Kd.N_mono HO477.out (fun k_ hk => (⟨hk, hk.1.1.1.2⟩ : _ ∧ k_ ≠ gb485))) (fun _ hk => hk.2) (.slice Ao59 y492.length co59)) (fun _ hk => ⟨hk.1.1.1.1.1.1, ⟨hk.1.1.1.1.1.2.2.2.1, ⟨hk.1.1.1.1.1.2.1, ⟨hk.1.1.1.1.1.2.2.1, ⟨hk.1.2, ⟨hk.1.1.1.1.1.2.2.2.2, hk.1.1.1.1.2⟩⟩⟩⟩⟩⟩)))⟩; replace HO480 : Aside0 (Kd.N k35 35 w61 w.heap.size (fun k_ => (w.heap.size ≤ k_) ∧ some k_ ≠ (v426 : Value).ownBlock ∧ some k_ ≠ (.slice Ao48 t475.length co48 : Value).ownBlock ∧ some k_ ≠ (.slice Ao50 t481.length co50 : Value).ownBlock ∧ some k_ ≠ (.slice Ao59 y492.length co59 : Value).ownBlock ∧ k_ ≠ g ∧ k_ ≠ gb485) (.slice Ao49 t478.length co49) t478) := ⟨(by rw [hw]; exact (by (with_reducible repeat (first | apply Kd.N_alloc | apply Kd.N_drewN | apply Kd.N_drew)); exact Kd.N_mono (Kd.N_far (p := ⟨gb485, 6, none⟩) (Kd.N_mono HO480.out (fun k_ hk => (⟨hk, hk.1.1.1.2⟩ : _ ∧ k_ ≠ gb485))) (fun _ hk => hk.2) (.slice Ao59 y492.length co59)) (fun _ hk => ⟨hk.1.1.1.1.1.1, ⟨hk.1.1.1.1.1.2.2.2.1, ⟨hk.1.1.1.1.1.2.1, ⟨hk.1.1.1.1.1.2.2.1, ⟨hk.1.2, ⟨hk.1.1.1.1.1.2.2.2.2, hk.1.1.1.1.2⟩⟩⟩⟩⟩⟩)))⟩; replace HO483 : Aside0 (Kd.N k35 35 w61 w.heap.size (fun k_ => (w.heap.size ≤ k_) ∧ some k_ ≠ (v426 : Value).ownBlock ∧ some k_ ≠ (.slice Ao48 t475.length co48 : Value).ownBlock ∧ some k_ ≠ (.slice Ao49 t478.length co49 : Value).ownBlock ∧ some k_ ≠ (.slice Ao59 y492.length co59 : Value).ownBlock ∧ k_ ≠ g ∧ k_ ≠ gb485) (.slice Ao50 t481.length co50) t481) := ⟨(by rw [hw]; exact (by (with_reducible repeat (first | apply Kd.N_alloc | apply Kd.N_drewN | apply Kd.N_drew)); exact Kd.N_mono (Kd.N_far (p := ⟨gb485, 6, none⟩) (Kd.N_mono HO483.out (fun k_ hk => (⟨hk, hk.1.1.1.2⟩ : _ ∧ k_ ≠ gb485))) (fun _ hk => hk.2) (.slice Ao59 y492.length co59)) (fun _ hk => ⟨hk.1.1.1.1.1.1, ⟨hk.1.1.1.1.1.2.2.2.1, ⟨hk.1.1.1.1.1.2.1, ⟨hk.1.1.1.1.1.2.2.1, ⟨hk.1.2, ⟨hk.1.1.1.1.1.2.2.2.2, hk.1.1.1.1.2⟩⟩⟩⟩⟩⟩)))⟩; replace HO494 : Aside0 (Kd.N k35 35 w61 w.heap.size (fun k_ => (w.heap.size ≤ k_) ∧ some k_ ≠ (v426 : Value).ownBlock ∧ some k_ ≠ (.slice Ao48 t475.length co48 : Value).ownBlock ∧ some k_ ≠ (.slice Ao49 t478.length co49 : Value).ownBlock ∧ some k_ ≠ (.slice Ao50 t481.length co50 : Value).ownBlock ∧ k_ ≠ gb485 ∧ k_ ≠ g) (.slice Ao59 y492.length co59) y492) := ⟨(by rw [hw]; exact (by (with_reducible repeat (first | apply Kd.N_alloc | apply Kd.N_drewN | apply Kd.N_drew)); exact Kd.N_mono (Kd.N_far (p := ⟨gb485, 6, none⟩) (Kd.N_mono HO494.out (fun k_ hk => (⟨hk, hk.2.2.2.2.2.1⟩ : _ ∧ k_ ≠ gb485))) (fun _ hk => hk.2) (.slice Ao59 y492.length co59)) (fun _ hk => ⟨hk.1.1, ⟨hk.1.2.1, ⟨hk.1.2.2.1, ⟨hk.1.2.2.2.1, ⟨hk.1.2.2.2.2.1, ⟨hk.1.2.2.2.2.2.1, hk.1.2.2.2.2.2.2⟩⟩⟩⟩⟩⟩)))⟩; replace BK485 : Aside0 (w61.heap[gb485]? = some (.cells #[.int .i64 t470, .int .i64 t471, .int .i64 t472, .int .i64 t473, .int .i64 t474, .slice Ao48 t475.length co48, .slice Ao59 y492.length co59, .slice Ao50 t481.length co50] 35 (0, 0))) := ⟨(by rw [hw]; exact (blk_put BK485.out 6 _ rfl))⟩; replace HK : Aside0 (KeepBut w w61 g none) := ⟨(by rw [hw]; exact ab26_)⟩; replace HB : Aside0 (Below w0.heap.size w0 w61) := ⟨(by rw [hw]; exact ab51_)⟩; replace HI0 : Aside0 (IsS91 w0 w61 g s0_0 t484) := ⟨(by rw [hw]; exact ab40_)⟩; clear hw; obtain ⟨hcz62_0, hcz62_1, hcz62_2, hcz62_3, hcz62_4, hcz62_5, hcz62_6, hcz62_7, hfz62_0, hfz62_1, hfz62_2, hfz62_3, hfz62_4, hfz62_5, hfz62_6, hfz62_7⟩ := bcf8_ BK485.out) | ((with_reducible refine gate_builtin (b := .append) (xs := #[.tmp 52, .tmp 54]) rfl ?_); at_builtin; refine Kd.N_append k35 w.heap.size rfl (.tmp 52) (.tmp 54) 23 35 (.agg #[(.int .i64 0), (.int .i64 0), (.int .i64 0), (.int .i64 0), (.int .i64 0), (.slice none 0 0), (.slice none 0 0), (.slice none 0 0)]) 112 rfl Try.underlying23 info35 rfl (by decide) (by omega) v426 t425 (⟨t470, t471, t472, (⟨t473, t474, t475⟩ : S32), y492, t481⟩ : S35) [.int .i64 t470, .int .i64 t471, .int .i64 t472, .int .i64 t473, .int .i64 t474, .slice Ao48 t475.length co48, .slice Ao59 y492.length co59, .slice Ao50 t481.length co50] (fun k_ => (w.heap.size ≤ k_) ∧ some k_ ≠ (.slice Ao49 t478.length co49 : Value).ownBlock ∧ k_ ≠ gb485 ∧ k_ ≠ g) (fun k_ => ((fun k_ => (w.heap.size ≤ k_) ∧ some k_ ≠ (.slice Ao49 t478.length co49 : Value).ownBlock ∧ k_ ≠ gb485 ∧ k_ ≠ g)) k_ ∧ some k_ ≠ (v426 : Value).ownBlock) rfl rfl ?aP (fun _ hk => hk) ?aF ?aO (Below.refl _ _) ?aS ?aL ?_; (case aP => exact (k35_mkF _ _ (⟨t470, t471, t472, (⟨t473, t474, t475⟩ : S32), y492, t481⟩ : S35) (Kd.N_reads' (Kd.N_mono (ok' := (fun k_ => ((fun k_ => (w.heap.size ≤ k_) ∧ some k_ ≠ (.slice Ao49 t478.length co49 : Value).ownBlock ∧ k_ ≠ gb485 ∧ k_ ≠ g)) k_ ∧ some k_ ≠ (v426 : Value).ownBlock)) (HO477.out) (fun k_ hk => ⟨⟨hk.1, ⟨hk.2.2.1, ⟨hk.2.2.2.2.2.2, hk.2.2.2.2.2.1⟩⟩⟩, hk.2.1⟩))).2.1 (Kd.N_F (Kd.N_mono (ok' := (fun k_ => ((fun k_ => (w.heap.size ≤ k_) ∧ some k_ ≠ (.slice Ao49 t478.length co49 : Value).ownBlock ∧ k_ ≠ gb485 ∧ k_ ≠ g)) k_ ∧ some k_ ≠ (v426 : Value).ownBlock)) (HO477.out) (fun k_ hk => ⟨⟨hk.1, ⟨hk.2.2.1, ⟨hk.2.2.2.2.2.2, hk.2.2.2.2.2.1⟩⟩⟩, hk.2.1⟩))) (Kd.N_reads' (Kd.N_mono (ok' := (fun k_ => ((fun k_ => (w.heap.size ≤ k_) ∧ some k_ ≠ (.slice Ao49 t478.length co49 : Value).ownBlock ∧ k_ ≠ gb485 ∧ k_ ≠ g)) k_ ∧ some k_ ≠ (v426 : Value).ownBlock)) (HO494.out) (fun k_ hk => ⟨⟨hk.1, ⟨hk.2.2.2.1, ⟨hk.2.2.2.2.2.1, hk.2.2.2.2.2.2⟩⟩⟩, hk.2.1⟩))).2.1 (Kd.N_F (Kd.N_mono (ok' := (fun k_ => ((fun k_ => (w.heap.size ≤ k_) ∧ some k_ ≠ (.slice Ao49 t478.length co49 : Value).ownBlock ∧ k_ ≠ gb485 ∧ k_ ≠ g)) k_ ∧ some k_ ≠ (v426 : Value).ownBlock)) (HO494.out) (fun k_ hk => ⟨⟨hk.1, ⟨hk.2.2.2.1, ⟨hk.2.2.2.2.2.1, hk.2.2.2.2.2.2⟩⟩⟩, hk.2.1⟩))) (Kd.N_reads' (Kd.N_mono (ok' := (fun k_ => ((fun k_ => (w.heap.size ≤ k_) ∧ some k_ ≠ (.slice Ao49 t478.length co49 : Value).ownBlock ∧ k_ ≠ gb485 ∧ k_ ≠ g)) k_ ∧ some k_ ≠ (v426 : Value).ownBlock)) (HO483.out) (fun k_ hk => ⟨⟨hk.1, ⟨hk.2.2.2.1, ⟨hk.2.2.2.2.2.2, hk.2.2.2.2.2.1⟩⟩⟩, hk.2.1⟩))).2.1 (Kd.N_F (Kd.N_mono (ok' := (fun k_ => ((fun k_ => (w.heap.size ≤ k_) ∧ some k_ ≠ (.slice Ao49 t478.length co49 : Value).ownBlock ∧ k_ ≠ gb485 ∧ k_ ≠ g)) k_ ∧ some k_ ≠ (v426 : Value).ownBlock)) (HO483.out) (fun k_ hk => ⟨⟨hk.1, ⟨hk.2.2.2.1, ⟨hk.2.2.2.2.2.2, hk.2.2.2.2.2.1⟩⟩⟩, hk.2.1⟩))))); (case aF => exact (fun k_ hk => ⟨(Nat.le_trans (keep_size (w := w) (g := g) (row := none) ab26_) hk), Kd.fresh' (Kd.N_lt (aN_ HO480.out)) k_ hk, Kd.freshB (g := gb485) (o := .cells #[.int .i64 t470, .int .i64 t471, .int .i64 t472, .int .i64 t473, .int .i64 t474, .slice Ao48 t475.length co48, .slice Ao59 y492.length co59, .slice Ao50 t481.length co50] 35 (0, 0)) (aG_ BK485.out) k_ hk, IsS91.fresh ab40_ k_ hk⟩)); (case aO => exact (by (with_reducible repeat (first | apply Kd.N_alloc | apply Kd.N_drewN | apply Kd.N_drew)); exact Kd.N_mono HO427.out (fun _ hk => ⟨hk.1, ⟨hk.2.2.1, ⟨hk.2.2.2.2.2.2, hk.2.2.2.2.2.1⟩⟩⟩))); (case aS => exact (keep_size (w := w) (g := g) (row := none) ab26_)); (case aL => have := LMc41.out; omega); intro v496 w63 ho hb hg hat; rw [← Ny495.out] at ho; replace HO480 := am (Kd.N_afterv (ok := (fun k_ => (w.heap.size ≤ k_) ∧ some k_ ≠ (.slice Ao48 t475.length co48 : Value).ownBlock ∧ some k_ ≠ (.slice Ao50 t481.length co50 : Value).ownBlock ∧ some k_ ≠ (.slice Ao59 y492.length co59 : Value).ownBlock ∧ k_ ≠ g ∧ k_ ≠ gb485)) (by (with_reducible repeat (first | apply Kd.N_alloc | apply Kd.N_drewN | apply Kd.N_drew)); exact Kd.N_mono HO480.out (fun _ hk => ⟨⟨hk.1, ⟨hk.2.2.1, ⟨hk.2.2.2.1, ⟨hk.2.2.2.2.1, ⟨hk.2.2.2.2.2.1, hk.2.2.2.2.2.2⟩⟩⟩⟩⟩, hk.2.1⟩)) hg hat); replace BK485 := am (blk_grown (g := gb485) (o := .cells #[.int .i64 t470, .int .i64 t471, .int .i64 t472, .int .i64 t473, .int .i64 t474, .slice Ao48 t475.length co48, .slice Ao59 y492.length co59, .slice Ao50 t481.length co50] 35 (0, 0)) (aG_ BK485.out) hg (Kd.N_away HO427.out (fun _ hk => hk.2.2.2.2.2.2))); replace HB := am (below_weaken ab51_ HL.out hb); replace HI0 := am (IsS91.grown ab40_ hg (IsS91.own_neN HI0.out HO427.out (by decide))); replace HK := am (KeepBut.trans ab26_ (KeepBut.of_grown hg g) (Kd.N_base2 HO427.out)); have HO497 := am (ho); clear HO427 HO477 HO483 HO494 ho hb hg hat))
   go_ret
   exact ⟨_, ab11_, by (with_reducible repeat (first | apply Kd.N_alloc | apply Kd.N_drewN | apply Kd.N_drew)); exact Kd.N_mono HO497.out (fun _ hk => hk.1), ab40_, ab51_, ab26_⟩
  rw [if_neg c41] at H
  exact absurd H (by simp)
 rw [if_neg c39] at H
 have c39b0 : (t429 == 4) = false := beq_eq_false_iff_ne.mpr c39
 have c39b1 : (t429 != 4) = true := bne_iff_ne.mpr c39
 by_cases c64 : t429 = 5
 ·rw [if_pos c64] at H
  have c64b0 : (t429 == 5) = true := beq_iff_eq.mpr c64
  have c64b1 : (t429 != 5) = false := bne_eq_false_iff_eq.mpr c64
  clear c64
  obtain ⟨⟨t498, t499, t500, t503⟩, A650, H⟩ := bsm H
  (try dsimp only at H)
  have A65 := am A650
  clear A650
  obtain ⟨y504, hy504⟩ : ∃ y_ : List (S35), y_ = (([(⟨6, 0, 0, (⟨0, 0, ([] : List (S32))⟩ : S32), ([] : List (S35)), ([] : List (S35))⟩ : S35)] : List (S35))) := ⟨_, rfl⟩
  replace H : (if t425.length < 1256584717458 then (some ((t425 ++ [(⟨3, 0, 0, (⟨t498, t499, t500⟩ : S32), ([] : List (S35)), y504⟩ : S35)]), t503)) else (none)) = some (r1, r2) := by first | (rw [hy504]; with_reducible exact H) | (have H2_ := (Option.bind_some _ _).symm.trans H; rw [hy504]; with_reducible exact H2_) | (have H2_ := (Option.bind_some _ _).symm.trans H; with_reducible exact H2_) | with_reducible exact H | (rw [hy504]; exact H) | exact H
  have Ny504 := am hy504
  clear hy504
  by_cases c66 : t425.length < 1256584717458
  ·rw [if_pos c66] at H
   have LMc66 := am c66
   clear c66
   obtain ⟨y507, hy507⟩ : ∃ y_ : List (S35), y_ = (t425 ++ [(⟨3, 0, 0, (⟨t498, t499, t500⟩ : S32), ([] : List (S35)), y504⟩ : S35)]) := ⟨_, rfl⟩
   replace H : (some (y507, t503)) = some (r1, r2) := by first | (rw [hy507]; with_reducible exact H) | (have H2_ := (Option.bind_some _ _).symm.trans H; rw [hy507]; with_reducible exact H2_) | (have H2_ := (Option.bind_some _ _).symm.trans H; with_reducible exact H2_) | with_reducible exact H | (rw [hy507]; exact H) | exact H
   have Ny507 := am hy507
   clear hy507
   simp only [Option.some.injEq, Prod.mk.injEq] at H
   obtain ⟨rfl, rfl⟩ := H
   go_wp2_with (first | ((with_reducible refine gate_callee (f := 75) rfl ?_); refine goesL_ (some 60) rfl rfl Try.func75 (by kernel_rfl) rfl #[.pointer (some ⟨g, 0, none⟩)] rfl ab1_ ?_; (with_reducible refine (spec_l91Leaf.calls k g s0_0 t430 t498 t499 t500 t503 w0 _ ?side1 ?side2 A65.out).mono ?_); (case side1 => exact ab4_); (case side2 => exact ab5_); rintro e w69 ⟨v501, rfl, ho0, hi, hb, hk⟩; refine ⟨_, rfl, ?_⟩; have HO502 := am (Kd.N_lower (Kd.N_mono (ok' := fun k_ => (w.heap.size ≤ k_) ∧ some k_ ≠ (v426 : Value).ownBlock ∧ k_ ≠ g) (Kd.R_N (Kd.R_bound ho0)) (fun k_ hk_ => ⟨(Nat.le_trans (keep_size (w := w) (g := g) (row := none) ab3_) hk_.2.1), (Kd.fresh' (Kd.N_lt (aN_ HO427.out)) k_ hk_.2.1), (IsS91.fresh ab4_ k_ hk_.2.1)⟩)) (keep_size (w := w) (g := g) (row := none) ab3_)); replace HO427 := am (Kd.N_mono (Kd.N_told (Kd.N_oldK (Kd.N_mono (ok := fun k_ => (((w.heap.size ≤ k_)) ∧ k_ ≠ g)) (aN_ HO427.out) (fun k_ hk_ => (⟨hk_, hk_.2⟩ : _ ∧ k_ ≠ g))) hk) (by first | exact Kd.N_base ho0 | exact Kd.N_base (Kd.R_N ho0))) (fun _ h_ => h_.1)); replace HK := am (KeepBut.trans ab3_ hk (.inl rfl)); replace HB := am (hb); replace HI0 := am (hi); (try clear hb); (try clear hb2); (try clear hk); (try clear hi); (try clear ho0)) | ((with_reducible refine gate_dst (N := 62) rfl ?_); refine Kd.N_lit k35 _ 35 rfl (N' := 62) rfl (xs := ([(⟨6, 0, 0, (⟨0, 0, ([] : List (S32))⟩ : S32), ([] : List (S35)), ([] : List (S35))⟩ : S35)] : List (S35))) (inner := [.int .i64 6, .int .i64 0, .int .i64 0, .int .i64 0, .int .i64 0, .slice none 0 0, .slice none 0 0, .slice none 0 0]) (ok := (fun k_ => (w.heap.size ≤ k_) ∧ some k_ ≠ (v426 : Value).ownBlock ∧ some k_ ≠ (v501 : Value).ownBlock ∧ k_ ≠ g)) (okp := (fun k_ => (w.heap.size ≤ k_) ∧ some k_ ≠ (v426 : Value).ownBlock ∧ some k_ ≠ (v501 : Value).ownBlock ∧ k_ ≠ g)) rn_ ?hp (fun _ hk => hk) ((show ∀ k_, w69.heap.size ≤ k_ → (fun k_ => (w.heap.size ≤ k_) ∧ some k_ ≠ (v426 : Value).ownBlock ∧ some k_ ≠ (v501 : Value).ownBlock ∧ k_ ≠ g) k_ from fun k_ hk => ⟨(Nat.le_trans (keep_size (w := w) (g := g) (row := none) ab3_) hk), Kd.fresh' (Kd.N_lt (aN_ HO427.out)) k_ hk, Kd.fresh' (Kd.N_lt (aN_ HO502.out)) k_ hk, IsS91.fresh ab4_ k_ hk⟩) _ (Nat.le_refl _)) (Below.refl _ _) (Nat.le_refl _) (by simp) ?_; (case hp => exact (Reps.c8 (show Kd.FK k35 _ _ (⟨6, 0, 0, (⟨0, 0, ([] : List (S32))⟩ : S32), ([] : List (S35)), ([] : List (S35))⟩ : S35) [.int .i64 6, .int .i64 0, .int .i64 0, .int .i64 0, .int .i64 0, .slice none 0 0, .slice none 0 0, .slice none 0 0] from (k35_mkF _ _ (⟨6, 0, 0, (⟨0, 0, ([] : List (S32))⟩ : S32), ([] : List (S35)), ([] : List (S35))⟩ : S35) (Nat.le_refl _) (Kd.F_nil _ _ _) (Nat.le_refl _) (Kd.F_nil _ _ _) (Nat.le_refl _) (Kd.F_nil _ _ _))) (Reps.none _ _))); intro v505 w70 ho71 hb hg_ hnew_; clear hg_ hnew_; (first | rw [← Ny504.out] at ho71 | (simp only [Int.reduceToNat] at ho71; rw [← Ny504.out] at ho71)); replace HO427 := am (Kd.N_elder' (aN_ HO427.out) (Kd.N_base ho71) hb); replace HO502 := am (Kd.N_elder' (aN_ HO502.out) (Kd.N_base ho71) hb); have HO506 := am (Kd.N_lower ho71 (keep_size (w := w) (g := g) (row := none) ab3_)); replace HK := am (KeepBut.trans ab3_ (KeepBut.of_below hb g none) (.inl rfl)); replace HB := am (below_step ab5_ hb); replace HI0 := am (IsS91.below ab4_ hb); clear hb ho71; obtain ⟨Ao72, co72, eo72⟩ := Kd.N_slice HO506.out; subst eo72; obtain ⟨Ao73, co73, eo73⟩ := Kd.N_slice HO502.out; subst eo73) | ((with_reducible refine gate_builtin (b := .append) (xs := #[.tmp 58, .tmp 64]) rfl ?_); at_builtin; refine Kd.N_append k35 w.heap.size rfl (.tmp 58) (.tmp 64) 23 35 (.agg #[(.int .i64 0), (.int .i64 0), (.int .i64 0), (.int .i64 0), (.int .i64 0), (.slice none 0 0), (.slice none 0 0), (.slice none 0 0)]) 112 rfl Try.underlying23 info35 rfl (by decide) (by omega) v426 t425 (⟨3, 0, 0, (⟨t498, t499, t500⟩ : S32), ([] : List (S35)), y504⟩ : S35) [.int .i64 3, .int .i64 0, .int .i64 0, .int .i64 t498, .int .i64 t499, .slice Ao73 t500.length co73, .slice none 0 0, .slice Ao72 y504.length co72] (fun k_ => (w.heap.size ≤ k_) ∧ k_ ≠ g) (fun k_ => ((fun k_ => (w.heap.size ≤ k_) ∧ k_ ≠ g)) k_ ∧ some k_ ≠ (v426 : Value).ownBlock) rfl rfl ?aP (fun _ hk => hk) ?aF ?aO (Below.refl _ _) ?aS ?aL ?_; (case aP => exact (k35_mkF _ _ (⟨3, 0, 0, (⟨t498, t499, t500⟩ : S32), ([] : List (S35)), y504⟩ : S35) (Kd.N_reads' (Kd.N_mono (ok' := (fun k_ => ((fun k_ => (w.heap.size ≤ k_) ∧ k_ ≠ g)) k_ ∧ some k_ ≠ (v426 : Value).ownBlock)) (HO502.out) (fun k_ hk => ⟨⟨hk.1.1, hk.1.2.2⟩, hk.1.2.1⟩))).2.1 (Kd.N_F (Kd.N_mono (ok' := (fun k_ => ((fun k_ => (w.heap.size ≤ k_) ∧ k_ ≠ g)) k_ ∧ some k_ ≠ (v426 : Value).ownBlock)) (HO502.out) (fun k_ hk => ⟨⟨hk.1.1, hk.1.2.2⟩, hk.1.2.1⟩))) (Nat.le_refl _) (Kd.F_nil _ _ _) (Kd.N_reads' (Kd.N_mono (ok' := (fun k_ => ((fun k_ => (w.heap.size ≤ k_) ∧ k_ ≠ g)) k_ ∧ some k_ ≠ (v426 : Value).ownBlock)) (HO506.out) (fun k_ hk => ⟨⟨hk.1, hk.2.2.2⟩, hk.2.1⟩))).2.1 (Kd.N_F (Kd.N_mono (ok' := (fun k_ => ((fun k_ => (w.heap.size ≤ k_) ∧ k_ ≠ g)) k_ ∧ some k_ ≠ (v426 : Value).ownBlock)) (HO506.out) (fun k_ hk => ⟨⟨hk.1, hk.2.2.2⟩, hk.2.1⟩))))); (case aF => exact (fun k_ hk => ⟨(Nat.le_trans (keep_size (w := w) (g := g) (row := none) ab3_) hk), IsS91.fresh ab4_ k_ hk⟩)); (case aO => exact (by (with_reducible repeat (first | apply Kd.N_alloc | apply Kd.N_drewN | apply Kd.N_drew)); exact Kd.N_mono HO427.out (fun _ hk => ⟨hk.1.1.1, hk.1.1.2⟩))); (case aS => exact (keep_size (w := w) (g := g) (row := none) ab3_)); (case aL => have := LMc66.out; omega); intro v508 w74 ho hb hg hat; rw [← Ny507.out] at ho; replace HB := am (below_weaken ab5_ HL.out hb); replace HI0 := am (IsS91.grown ab4_ hg (IsS91.own_neN HI0.out HO427.out (by decide))); replace HK := am (KeepBut.trans ab3_ (KeepBut.of_grown hg g) (Kd.N_base2 HO427.out)); have HO509 := am (ho); clear HO427 HO502 HO506 ho hb hg hat))
   go_ret
   exact ⟨_, ab11_, by (with_reducible repeat (first | apply Kd.N_alloc | apply Kd.N_drewN | apply Kd.N_drew)); exact Kd.N_mono HO509.out (fun _ hk => hk.1), ab4_, ab5_, ab3_⟩
  rw [if_neg c66] at H
  exact absurd H (by simp)
 rw [if_neg c64] at H
 have c64b0 : (t429 == 5) = false := beq_eq_false_iff_ne.mpr c64
 have c64b1 : (t429 != 5) = true := bne_iff_ne.mpr c64
 simp only [Option.some.injEq, Prod.mk.injEq] at H
 obtain ⟨rfl, rfl⟩ := H
 go_wp2
 go_ret
 exact ⟨_, ab11_, by (with_reducible repeat (first | apply Kd.N_alloc | apply Kd.N_drewN | apply Kd.N_drew)); exact Kd.N_mono HO427.out (fun _ hk => hk.1), ab4_, ab5_, ab3_⟩
theorem spec_DrawStmtsFold.mono : ∀ a k, LeO (spec_DrawStmtsFold.f k a) (spec_DrawStmtsFold.f (k + 1) a) := by
 intro a k
 unfold spec_DrawStmtsFold.f
 repeat' first
  | (with_reducible exact spec_l92Some.mono _ _ _)
  | (with_reducible exact spec_l6Rd_pick.mono _ _ _ _)
  | (with_reducible exact spec_l92If.mono _ _ _ _ _ _)
  | (with_reducible exact spec_l91Op.mono _ _ _)
  | (with_reducible exact LeO.refl _)
  | (with_reducible refine LeO.ite ?_ ?_)
  | (with_reducible refine LeO.bind ?_ (fun _ => ?_))
theorem spec_DrawStmtsFold.calls (k : Nat) (A0 : Option Addr) (c0 : Nat) (l0 : List Int) (r : List (S35)) (w : World) (hr0 : Kd.C (Kd.int .u8) w A0 l0.length l0) (hc0 : l0.length ≤ c0) (h : spec_DrawStmtsFold.f k l0 = some r) :
  Calls Try.prog 12 #[.slice A0 l0.length c0] w fun e w' => ∃ v0_ : Value, e = .returned (v0_) ∧ Kd.N k35 35 w' w.heap.size (fun k_ => (w.heap.size ≤ k_)) v0_ r ∧ Below w.heap.size w w' := by
 unfold spec_DrawStmtsFold.f at h
 replace h := Option.bind_eq_some_iff.mp h
 obtain ⟨⟨bs, p0⟩, h1, h⟩ := h
 replace h := Option.bind_eq_some_iff.mp h
 obtain ⟨⟨ss, p1⟩, h2, h⟩ := h
 replace h := Option.bind_eq_some_iff.mp h
 obtain ⟨⟨t2, p2⟩, h3, h⟩ := h
 dsimp only at h1 h2 h3 h
 have HR0 := am hr0
 have HC0 := am hc0
 have H1 := am h1
 have H2 := am h2
 have H3 := am h3
 clear hr0 hc0 h1 h2 h3
 by_cases c1 : t2 = 0
 case neg =>
  rw [if_neg c1] at h
  obtain rfl := Option.some.inj h
  have c1b : (t2 == 0) = false := beq_eq_false_iff_ne.mpr c1
  have c1c : (t2 != 0) = true := bne_iff_ne.mpr c1
  clear c1
  go_enter Try.func12, Try.ntmps12
  go_wp2_with (first | ((with_reducible refine gate_callee (f := 39) rfl ?_); refine goesL_ (some 7) rfl rfl Try.func39 (by kernel_rfl) rfl #[.slice A0 l0.length c0] rfl (by (try simp only [List.map_toArray, List.map_cons, List.map_nil]); first | done | rfl) ?_; (with_reducible refine (spec_l6Open.calls A0 c0 l0 bs p0 w _ (Below.refl _ _) HR0.out HC0.out H1.out).mono ?_); rintro e w1 ⟨g, rfl, hi, hb, hb2⟩; refine ⟨_, rfl, ?_⟩; have HI := am hi; have HB := am hb; clear hi hb hb2) | ((with_reducible refine gate_callee (f := 40) rfl ?_); refine goesL_ (some 9) rfl rfl Try.func40 (by kernel_rfl) rfl #[.pointer (some ⟨g, 0, none⟩)] rfl (by (try simp only [List.map_toArray, List.map_cons, List.map_nil]); first | done | rfl) ?_; (with_reducible refine (spec_l92Some.calls k g bs p0 ss p1 w _ HI.out HB.out H2.out).mono ?_); rintro e w2 ⟨v4, rfl, hn, hi, hb, hk⟩; refine ⟨_, rfl, ?_⟩; have GLT := IsS91.lt HI.out; have hle := HB.out.size; have HN := am (Kd.N_mono (ok' := fun q => w.heap.size ≤ q ∧ q ≠ g) (Kd.N_lower hn hle) (fun q hq => ⟨Nat.le_trans hle hq, fun e => by omega⟩)); clear HI HB GLT hle; have HI := am hi; have HB := am hb; clear hn hi hb hk) | ((with_reducible refine gate_callee (f := 41) rfl ?_); refine goesL_ (some 11) rfl rfl Try.func41 (by kernel_rfl) rfl #[.pointer (some ⟨g, 0, none⟩), .int .i64 3] rfl (by (try simp only [List.map_toArray, List.map_cons, List.map_nil]); first | done | rfl) ?_; (with_reducible refine (spec_l6Rd_pick.calls k g bs p1 3 t2 p2 w _ HI.out HB.out H3.out).mono ?_); rintro e w3 ⟨rfl, hi, hb, hk⟩; refine ⟨_, rfl, ?_⟩; have tN := am (Kd.N_keep HN.out hk (fun _ hq => hq.2)); clear HN HI HB; have HN := tN; have HI := am hi; have HB := am hb; clear tN hi hb hk) | fail)
  obtain ⟨B4, d4, rfl⟩ := Kd.N_slice HN.out
  go_ret
  exact ⟨_, rfl, Kd.N_mono HN.out (fun _ hq => hq.1), HB.out⟩
 rw [if_pos c1] at h
 have c1b : (t2 == 0) = true := beq_iff_eq.mpr c1
 have c1c : (t2 != 0) = false := bne_eq_false_iff_eq.mpr c1
 clear c1
 replace h := Option.bind_eq_some_iff.mp h
 obtain ⟨⟨i1, i2, i3, i4, i5, i6, i7, i8, p3⟩, h4, h⟩ := h
 dsimp only at h4 h
 have H4 := am h4
 clear h4
 replace h := Option.bind_eq_some_iff.mp h
 obtain ⟨⟨q1, p4⟩, h5, h⟩ := h
 dsimp only at h5 h
 have H5 := am h5
 clear h5
 replace h := Option.bind_eq_some_iff.mp h
 obtain ⟨⟨ta, p5⟩, h6, h⟩ := h
 dsimp only at h6 h
 have H6 := am h6
 clear h6
 replace h := Option.bind_eq_some_iff.mp h
 obtain ⟨⟨tb, p6⟩, h7, h⟩ := h
 dsimp only at h7 h
 have H7 := am h7
 clear h7
 obtain rfl := Option.some.inj h
 clear h
 go_enter Try.func12, Try.ntmps12
 go_upto_region 5 with (first | ((with_reducible refine gate_callee (f := 39) rfl ?_); refine goesL_ (some 7) rfl rfl Try.func39 (by kernel_rfl) rfl #[.slice A0 l0.length c0] rfl (by (try simp only [List.map_toArray, List.map_cons, List.map_nil]); first | done | rfl) ?_; (with_reducible refine (spec_l6Open.calls A0 c0 l0 bs p0 w _ (Below.refl _ _) HR0.out HC0.out H1.out).mono ?_); rintro e w1 ⟨g, rfl, hi, hb, hb2⟩; refine ⟨_, rfl, ?_⟩; have HI := am hi; have HB := am hb; clear hi hb hb2) | ((with_reducible refine gate_callee (f := 40) rfl ?_); refine goesL_ (some 9) rfl rfl Try.func40 (by kernel_rfl) rfl #[.pointer (some ⟨g, 0, none⟩)] rfl (by (try simp only [List.map_toArray, List.map_cons, List.map_nil]); first | done | rfl) ?_; (with_reducible refine (spec_l92Some.calls k g bs p0 ss p1 w _ HI.out HB.out H2.out).mono ?_); rintro e w2 ⟨v4, rfl, hn, hi, hb, hk⟩; refine ⟨_, rfl, ?_⟩; have GLT := IsS91.lt HI.out; have hle := HB.out.size; have HN := am (Kd.N_mono (ok' := fun q => w.heap.size ≤ q ∧ q ≠ g) (Kd.N_lower hn hle) (fun q hq => ⟨Nat.le_trans hle hq, fun e => by omega⟩)); clear HI HB GLT hle; have HI := am hi; have HB := am hb; clear hn hi hb hk) | ((with_reducible refine gate_callee (f := 41) rfl ?_); refine goesL_ (some 11) rfl rfl Try.func41 (by kernel_rfl) rfl #[.pointer (some ⟨g, 0, none⟩), .int .i64 3] rfl (by (try simp only [List.map_toArray, List.map_cons, List.map_nil]); first | done | rfl) ?_; (with_reducible refine (spec_l6Rd_pick.calls k g bs p1 3 t2 p2 w _ HI.out HB.out H3.out).mono ?_); rintro e w3 ⟨rfl, hi, hb, hk⟩; refine ⟨_, rfl, ?_⟩; have tN := am (Kd.N_keep HN.out hk (fun _ hq => hq.2)); clear HN HI HB; have HN := tN; have HI := am hi; have HB := am hb; clear tN hi hb hk) | ((with_reducible refine gate_callee (f := 42) rfl ?_); refine goesL_ (some 14) rfl rfl Try.func42 (by kernel_rfl) rfl #[.pointer (some ⟨g, 0, none⟩), .int .i64 1, .int .i64 1, .bool false] rfl (by (try simp only [List.map_toArray, List.map_cons, List.map_nil]); first | done | rfl) ?_; (with_reducible refine (spec_l92If.calls k g bs p2 1 1 false i1 i2 i3 i4 i5 i6 i7 i8 p3 w _ HI.out HB.out H4.out).mono ?_); rintro e w4 ⟨v5, v6, v7, rfl, hn5, hn6, hn7, hi, hb, hk⟩; refine ⟨_, rfl, ?_⟩; obtain ⟨B5, d5, rfl⟩ := Kd.N_slice hn5; obtain ⟨B6, d6, rfl⟩ := Kd.N_slice hn6; obtain ⟨B7, d7, rfl⟩ := Kd.N_slice hn7; have GLT := IsS91.lt HI.out; have hle := HB.out.size; have N6 := am (Kd.N_mono (ok' := fun q => w.heap.size ≤ q ∧ q ≠ g) (Kd.N_lower hn6 hle) (fun q hq => ⟨Nat.le_trans hle hq.1, fun e => by have := hq.1; omega⟩)); have N7 := am (Kd.N_mono (ok' := fun q => w.heap.size ≤ q ∧ q ≠ g) (Kd.N_lower hn7 hle) (fun q hq => ⟨Nat.le_trans hle hq.1, fun e => by have := hq.1; omega⟩)); clear HI HB GLT hle HN; have HI := am hi; have HB := am hb; clear hn5 hn6 hn7 hi hb hk) | fail)
 have hb : Below w4.heap.size w4 (w4.alloc (.cells #[(.int .i64 i1), (.int .i64 i2), (.int .i64 i3), (.int .i64 i4), (.int .i64 i5), (.slice B5 i6.length d5), (.slice B6 i7.length d6), (.slice B7 i8.length d7)] 35)) := below_alloc (Below.refl _ _) _
 have tX := am (blk_new w4 (.cells #[(.int .i64 i1), (.int .i64 i2), (.int .i64 i3), (.int .i64 i4), (.int .i64 i5), (.slice B5 i6.length d5), (.slice B6 i7.length d6), (.slice B7 i8.length d7)] 35))
 have tW := am (HB.out.size)
 have tG : Aside0 (w4.heap.size ≠ g) := ⟨fun e => by have := IsS91.lt HI.out; omega⟩
 have tI := am (HI.out.below hb)
 have tB := am (below_step HB.out hb)
 have tN6 := am (Kd.N_mono (ok' := fun q => (w.heap.size ≤ q ∧ q ≠ w4.heap.size) ∧ q ≠ g) (Kd.N_below (Kd.N_elderB N6.out w4.heap.size (Nat.le_refl _)) hb) (fun _ hq => ⟨⟨hq.1.1, hq.2⟩, hq.1.2⟩))
 have tN7 := am (Kd.N_mono (ok' := fun q => (w.heap.size ≤ q ∧ q ≠ w4.heap.size) ∧ q ≠ g) (Kd.N_below (Kd.N_elderB N7.out w4.heap.size (Nat.le_refl _)) hb) (fun _ hq => ⟨⟨hq.1.1, hq.2⟩, hq.1.2⟩))
 clear hb HB HI N6 N7
 generalize w4.alloc (.cells #[(.int .i64 i1), (.int .i64 i2), (.int .i64 i3), (.int .i64 i4), (.int .i64 i5), (.slice B5 i6.length d5), (.slice B6 i7.length d6), (.slice B7 i8.length d7)] 35) = w6 at tX tI tB tN6 tN7 ⊢
 generalize w4.heap.size = gb at tX tW tG tN6 tN7 ⊢
 have X := tX
 have GW := tW
 have GN := tG
 have HI := tI
 have HB := tB
 have N6 := tN6
 have N7 := tN7
 clear tX tW tG tI tB tN6 tN7
 go_upto_region 6 with (first | ((with_reducible refine gate_callee (f := 44) rfl ?_); refine goesL_ (some 16) rfl rfl Try.func44 (by kernel_rfl) rfl #[.pointer (some ⟨g, 0, none⟩)] rfl (by (try simp only [List.map_toArray, List.map_cons, List.map_nil]); first | done | rfl) ?_; (with_reducible refine (spec_l91Op.calls k g bs p3 q1 p4 w _ HI.out HB.out H5.out).mono ?_); rintro e x1 ⟨rfl, hi, hb, hk⟩; refine ⟨_, rfl, ?_⟩; have tHI := am hi; have tHB := am hb; have tX := am (hk.blk X.out GN.out (by simp)); have tN6 := am (Kd.N_keep N6.out hk (fun _ hq => hq.2)); have tN7 := am (Kd.N_keep N7.out hk (fun _ hq => hq.2)); clear hi hb hk HI HB X N6 N7; have HI := tHI; have HB := tHB; have X := tX; have N6 := tN6; have N7 := tN7; clear tHI tHB tX tN6 tN7) | ((with_reducible refine gate_callee (f := 41) rfl ?_); refine goesL_ (some 18) rfl rfl Try.func41 (by kernel_rfl) rfl #[.pointer (some ⟨g, 0, none⟩), .int .i64 3] rfl (by (try simp only [List.map_toArray, List.map_cons, List.map_nil]); first | done | rfl) ?_; (with_reducible refine (spec_l6Rd_pick.calls k g bs p4 3 ta p5 w _ HI.out HB.out H6.out).mono ?_); rintro e x2 ⟨rfl, hi, hb, hk⟩; refine ⟨_, rfl, ?_⟩; have tHI := am hi; have tHB := am hb; have tX := am (hk.blk X.out GN.out (by simp)); have tN6 := am (Kd.N_keep N6.out hk (fun _ hq => hq.2)); have tN7 := am (Kd.N_keep N7.out hk (fun _ hq => hq.2)); clear hi hb hk HI HB X N6 N7; have HI := tHI; have HB := tHB; have X := tX; have N6 := tN6; have N7 := tN7; clear tHI tHB tX tN6 tN7) | ((with_reducible refine gate_callee (f := 45) rfl ?_); refine goesL_ (some 19) rfl rfl Try.func45 (by kernel_rfl) rfl #[.int .i64 0, .int .i64 ta] rfl (by (try simp only [List.map_toArray, List.map_cons, List.map_nil]); first | done | rfl) ?_; (with_reducible refine (leaf_lit 0 ta _).mono ?_); rintro e x3 ⟨A1, c1, rfl, hb⟩; refine ⟨_, rfl, ?_⟩; have tHI := am (HI.out.below hb); have tHB := am (below_step HB.out hb); have tX := am (blk_below X.out hb); have tN6 := am (Kd.N_below N6.out hb); have tN7 := am (Kd.N_below N7.out hb); clear HI HB X N6 N7; have HI := tHI; have HB := tHB; have X := tX; have N6 := tN6; have N7 := tN7; clear tHI tHB tX tN6 tN7 hb) | ((with_reducible refine gate_callee (f := 41) rfl ?_); refine goesL_ (some 21) rfl rfl Try.func41 (by kernel_rfl) rfl #[.pointer (some ⟨g, 0, none⟩), .int .i64 3] rfl (by (try simp only [List.map_toArray, List.map_cons, List.map_nil]); first | done | rfl) ?_; (with_reducible refine (spec_l6Rd_pick.calls k g bs p5 3 tb p6 w _ HI.out HB.out H7.out).mono ?_); rintro e x4 ⟨rfl, hi, hb, hk⟩; refine ⟨_, rfl, ?_⟩; have tHI := am hi; have tHB := am hb; have tX := am (hk.blk X.out GN.out (by simp)); have tN6 := am (Kd.N_keep N6.out hk (fun _ hq => hq.2)); have tN7 := am (Kd.N_keep N7.out hk (fun _ hq => hq.2)); clear hi hb hk HI HB X N6 N7; have HI := tHI; have HB := tHB; have X := tX; have N6 := tN6; have N7 := tN7; clear tHI tHB tX tN6 tN7) | ((with_reducible refine gate_callee (f := 45) rfl ?_); refine goesL_ (some 22) rfl rfl Try.func45 (by kernel_rfl) rfl #[.int .i64 0, .int .i64 tb] rfl (by (try simp only [List.map_toArray, List.map_cons, List.map_nil]); first | done | rfl) ?_; (with_reducible refine (leaf_lit 0 tb _).mono ?_); rintro e x5 ⟨A2, c2, rfl, hb⟩; refine ⟨_, rfl, ?_⟩; have tHI := am (HI.out.below hb); have tHB := am (below_step HB.out hb); have tX := am (blk_below X.out hb); have tN6 := am (Kd.N_below N6.out hb); have tN7 := am (Kd.N_below N7.out hb); clear HI HB X N6 N7; have HI := tHI; have HB := tHB; have X := tX; have N6 := tN6; have N7 := tN7; clear tHI tHB tX tN6 tN7 hb) | ((with_reducible refine gate_callee (f := 43) rfl ?_); refine goesL_ (some 23) rfl rfl Try.func43 (by kernel_rfl) rfl #[.int .i64 q1, (.agg #[.int .i64 0, .int .i64 ta, .slice A1 0 c1]), (.agg #[.int .i64 0, .int .i64 tb, .slice A2 0 c2])] rfl (by (try simp only [List.map_toArray, List.map_cons, List.map_nil]); first | done | rfl) ?_; (with_reducible refine (both_lit q1 0 ta A1 c1 0 tb A2 c2 _).mono ?_); rintro e x6 ⟨B9, d9, rfl, hn, hb⟩; refine ⟨_, rfl, ?_⟩; have hle := HB.out.size; have GL := blk_lt X.out; have N9 := am (Kd.N_mono (ok' := fun q => w.heap.size ≤ q ∧ q ≠ gb) (Kd.N_lower hn hle) (fun q hq => ⟨Nat.le_trans hle hq, fun e => by omega⟩)); have tHI := am (HI.out.below hb); have tHB := am (below_step HB.out hb); have tX := am (blk_below X.out hb); have tN6 := am (Kd.N_below N6.out hb); have tN7 := am (Kd.N_below N7.out hb); clear HI HB X N6 N7; have HI := tHI; have HB := tHB; have X := tX; have N6 := tN6; have N7 := tN7; clear tHI tHB tX tN6 tN7 hb hn hle GL; have z3 : x6.cell? ⟨gb, 3, none⟩ = some (.int .i64 i4) := blk_cell X.out 3; have f3 := blk_frozen X.out 3; have z4 : x6.cell? ⟨gb, 4, none⟩ = some (.int .i64 i5) := blk_cell X.out 4; have f4 := blk_frozen X.out 4; have z5 : x6.cell? ⟨gb, 5, none⟩ = some (.slice B5 i6.length d5) := blk_cell X.out 5; have f5 := blk_frozen X.out 5) | fail)
 have tX := am (blk_put (cs' := #[(.int .i64 i1), (.int .i64 i2), (.int .i64 i3), (.int .i64 q1), (.int .i64 0), (.slice B9 2 d9), (.slice B6 i7.length d6), (.slice B7 i8.length d7)]) (blk_put (cs' := #[(.int .i64 i1), (.int .i64 i2), (.int .i64 i3), (.int .i64 q1), (.int .i64 0), (.slice B5 i6.length d5), (.slice B6 i7.length d6), (.slice B7 i8.length d7)]) (blk_put (cs' := #[(.int .i64 i1), (.int .i64 i2), (.int .i64 i3), (.int .i64 q1), (.int .i64 i5), (.slice B5 i6.length d5), (.slice B6 i7.length d6), (.slice B7 i8.length d7)]) X.out 3 (.int .i64 q1) rfl) 4 (.int .i64 0) rfl) 5 (.slice B9 2 d9) rfl)
 have tB := am (below_set (j := 5) (v := (.slice B9 2 d9)) (below_set (j := 4) (v := (.int .i64 0)) (below_set (j := 3) (v := (.int .i64 q1)) HB.out GW.out) GW.out) GW.out)
 have tN6 := am (Kd.N_mono (ok' := fun q => w.heap.size ≤ q) (Kd.N_far (p := ⟨gb, 5, none⟩) (Kd.N_far (p := ⟨gb, 4, none⟩) (Kd.N_far (p := ⟨gb, 3, none⟩) N6.out (fun _ hq => hq.1.2) (.int .i64 q1)) (fun _ hq => hq.1.2) (.int .i64 0)) (fun _ hq => hq.1.2) (.slice B9 2 d9)) (fun _ hq => hq.1.1))
 have tN7 := am (Kd.N_mono (ok' := fun q => w.heap.size ≤ q) (Kd.N_far (p := ⟨gb, 5, none⟩) (Kd.N_far (p := ⟨gb, 4, none⟩) (Kd.N_far (p := ⟨gb, 3, none⟩) N7.out (fun _ hq => hq.1.2) (.int .i64 q1)) (fun _ hq => hq.1.2) (.int .i64 0)) (fun _ hq => hq.1.2) (.slice B9 2 d9)) (fun _ hq => hq.1.1))
 have tN9 := am (Kd.N_mono (ok' := fun q => w.heap.size ≤ q) (Kd.N_far (p := ⟨gb, 5, none⟩) (Kd.N_far (p := ⟨gb, 4, none⟩) (Kd.N_far (p := ⟨gb, 3, none⟩) N9.out (fun _ hq => hq.2) (.int .i64 q1)) (fun _ hq => hq.2) (.int .i64 0)) (fun _ hq => hq.2) (.slice B9 2 d9)) (fun _ hq => hq.1))
 clear X HB HI N6 N7 N9 z3 z4 z5 f3 f4 f5
 generalize (((x6.setCell ⟨gb, 3, none⟩ (.int .i64 q1)).setCell ⟨gb, 4, none⟩ (.int .i64 0)).setCell ⟨gb, 5, none⟩ (.slice B9 2 d9)) = y6 at tX tB tN6 tN7 tN9 ⊢
 have z0 : y6.cell? ⟨gb, 0, none⟩ = some (.int .i64 i1) := blk_cell tX.out 0
 have z1 : y6.cell? ⟨gb, 1, none⟩ = some (.int .i64 i2) := blk_cell tX.out 1
 have z2 : y6.cell? ⟨gb, 2, none⟩ = some (.int .i64 i3) := blk_cell tX.out 2
 have z3 : y6.cell? ⟨gb, 3, none⟩ = some (.int .i64 q1) := blk_cell tX.out 3
 have z4 : y6.cell? ⟨gb, 4, none⟩ = some (.int .i64 0) := blk_cell tX.out 4
 have z5 : y6.cell? ⟨gb, 5, none⟩ = some (.slice B9 2 d9) := blk_cell tX.out 5
 have z6 : y6.cell? ⟨gb, 6, none⟩ = some (.slice B6 i7.length d6) := blk_cell tX.out 6
 have z7 : y6.cell? ⟨gb, 7, none⟩ = some (.slice B7 i8.length d7) := blk_cell tX.out 7
 go_wp2_with (first | ((with_reducible refine gate_dst (N := 26) rfl ?_); refine Kd.N_lit k35 y6.heap.size 35 rfl (N' := 26) rfl (w0 := y6) (xs := [(⟨i1, i2, i3, ⟨q1, 0, [⟨0, ta, []⟩, ⟨0, tb, []⟩]⟩, i7, i8⟩ : S35)]) (inner := [(.int .i64 i1), (.int .i64 i2), (.int .i64 i3), (.int .i64 q1), (.int .i64 0), (.slice B9 2 d9), (.slice B6 i7.length d6), (.slice B7 i8.length d7)]) (ok := fun q => w.heap.size ≤ q) (okp := fun q => w.heap.size ≤ q) ?hr (Reps.c8 (show Kd.FK k35 _ _ (⟨i1, i2, i3, ⟨q1, 0, [⟨0, ta, []⟩, ⟨0, tb, []⟩]⟩, i7, i8⟩ : S35) [(.int .i64 i1), (.int .i64 i2), (.int .i64 i3), (.int .i64 q1), (.int .i64 0), (.slice B9 2 d9), (.slice B6 i7.length d6), (.slice B7 i8.length d7)] from k35_mkF _ _ (⟨i1, i2, i3, ⟨q1, 0, [⟨0, ta, []⟩, ⟨0, tb, []⟩]⟩, i7, i8⟩ : S35) (Kd.N_reads' tN9.out).2.1 (Kd.N_F tN9.out) (Kd.N_reads' tN6.out).2.1 (Kd.N_F tN6.out) (Kd.N_reads' tN7.out).2.1 (Kd.N_F tN7.out)) (Reps.none _ _)) (fun _ hq => hq) tB.out.size (Below.refl _ _) (Nat.le_refl _) (by simp) ?_; (case hr => first | (go_simp; done) | (go_simp; rfl)); intro v9 y7 hn hb _ _; obtain ⟨B8, d8, rfl⟩ := Kd.N_slice hn; have N8 := am hn; have B8_ := am hb; clear hn hb) | fail)
 go_ret
 exact ⟨_, rfl, Kd.N_lower N8.out tB.out.size, below_step tB.out B8_.out⟩
theorem impl_OpValid.calls (a0 : Int) (r : Bool) (w : World) (h : impl_OpValid.f a0 = some r) :
  Calls Try.prog 125 #[.int .i64 a0] w fun e w' => e = .returned (.bool r) ∧ Drawn0 w w' := by
 have H : (if a0 ≥ 1 then (some (decide (a0 ≤ 12))) else (some false)) = some r := h
 clear h
 by_cases c2 : a0 ≥ 1
 ·rw [if_pos c2] at H
  have c2b0 : decide (1 ≤ a0) = true := decide_eq_true c2
  clear c2
  obtain rfl := Option.some.inj H
  go_enter Try.func125, Try.ntmps125
  go_wp2
  go_ret
  exact ⟨by first | rfl | (simp; done) | (simp [*]; done), ab18_⟩
 rw [if_neg c2] at H
 have c2b0 : decide (1 ≤ a0) = false := decide_eq_false c2
 clear c2
 obtain rfl := Option.some.inj H
 go_enter Try.func125, Try.ntmps125
 go_wp2
 go_ret
 exact ⟨by first | rfl | (simp; done) | (simp [*]; done), ab18_⟩
end Go.Proofs.Ytodhbeeibagiaaa.PA


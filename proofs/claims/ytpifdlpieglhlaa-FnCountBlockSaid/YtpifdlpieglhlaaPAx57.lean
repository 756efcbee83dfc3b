-- made by a program of this session (wip/myprint.py over the kit's print)
import Derived.Test.YtpifdlpieglhlaaV
import Derived.Test.YtpifdlpieglhlaaPAx0
import Derived.Test.YtpifdlpieglhlaaPAx1
import Derived.Test.YtpifdlpieglhlaaPAx46
import Derived.Test.YtpifdlpieglhlaaPAx47
import Derived.Test.YtpifdlpieglhlaaPAx48
import Derived.Test.YtpifdlpieglhlaaPAx51
import Derived.Test.YtpifdlpieglhlaaPAx55
namespace Go.Proofs.Ytpifdlpieglhlaa.PA
open Go.RowKit Go.Proofs.YtpifdlpieglhlaaW.PrintWords Go.Proofs.YtpifdlpieglhlaaW.PrintLast Go.Proofs.YtpifdlpieglhlaaW.PrintMore
attribute [local go_sem] max2_int min2_int max_two min_two max_three min_three max_four min_four   -- for this text's walks alone
set_option linter.unusedVariables false
set_option linter.unusedSimpArgs false

/-! ### spec_l92Loop: function 63 -/
theorem any_inv {P : Program} {ops : Array Oper} {Q : Exit → Act → World → Prop} {n : Nat} {T : Bool × List (List Nat × List Nat)} (hn : ops.size = n) (hT : rtab .any ops = T)
    (hac : (List.range n).all (fun i => match T.2[i]? with | some r => r.1.all (fun j => decide (j < i)) | none => false) = true)
    (I : (Nat → Bool) → Act → World → Prop)
    (hstep : ∀ (i : Nat) (b : Nat → Bool) (a : Act) (w : World), i < n → b i = false → (∀ r, T.2[i]? = some r → ∀ j ∈ r.1, b j = true) → (∀ j r, b j = true → T.2[j]? = some r → ∀ q ∈ r.1, b q = true) → I b a w → wpOp P ops Q i (fun a' w' => I (fun j => if j = i then true else b j) a' w') a w)
    (hdone : ∀ (b : Nat → Bool) (a : Act) (w : World), (∀ j, j < n → b j = true) → I b a w → Q .normal a w)
    (a : Act) (w : World) (h0 : I (fun _ => false) a w) : wpAny P .any ops Q n (Array.replicate n false) a w := by
  have key : ∀ (fuel : Nat) (l : Array Bool) (a : Act) (w : World), l.size = n → ((List.range n).countP (fun j => !l.getD j false)) ≤ fuel →
      (∀ j r, l.getD j false = true → T.2[j]? = some r → ∀ q ∈ r.1, l.getD q false = true) → I (fun j => l.getD j false) a w → wpAny P .any ops Q fuel l a w := by
    have all_of : ∀ l : Array Bool, l.size = n → Region.ready .any ops l = [] → ∀ j, j < n → l.getD j false = true := by
      intro l hl hr j
      induction j using Nat.strongRecOn with
      | _ j ih =>
      intro hj
      cases hb : l.getD j false with
      | true => rfl
      | false =>
        have hm : j ∈ Region.ready .any ops l := by
          rw [ready_eq, hT]
          unfold readyT
          have hlen : T.2.length = n := by rw [← hT, rtab_length, hn]
          rw [List.mem_filter, List.mem_range, hlen]
          refine ⟨hj, ?_⟩
          unfold readyAt
          have e1 : l.toList.getD j true = false := by
            rw [← gd]
            have hlt : j < l.size := by omega
            simp only [Array.getD_eq_getD_getElem?, Array.getElem?_eq_getElem hlt, Option.getD_some] at hb ⊢
            exact hb
          rw [e1]
          have h1 := List.all_eq_true.1 hac j (List.mem_range.2 hj)
          cases hq : T.2[j]? with
          | none => rw [hq] at h1; cases h1
          | some r =>
            rw [hq] at h1
            simp only [List.all_eq_true, decide_eq_true_eq] at h1
            simp only [Bool.not_false, Bool.true_and, List.all_eq_true]
            intro q hqm
            rw [← gd]
            exact ih q (h1 q hqm) (by have := h1 q hqm; omega)
        rw [hr] at hm
        cases hm
    intro fuel
    induction fuel with
    | zero =>
      intro l a w hl hc hcl hI
      have hall : ∀ j, j < n → l.getD j false = true := by
        intro j hj
        have := List.countP_eq_zero.1 (Nat.le_zero.1 hc) j (List.mem_range.2 hj)
        simpa using this
      refine ⟨?_, hdone _ a w hall hI⟩
      cases hr : Region.ready .any ops l with
      | nil => rfl
      | cons i rs =>
        have hm : i ∈ Region.ready .any ops l := by rw [hr]; exact List.mem_cons_self
        obtain ⟨h1, o, h2, _⟩ := mem_ready.1 hm
        have hi : i < l.size := by rw [hl, ← hn]; exact (Array.getElem?_eq_some_iff.1 h2).1
        have := hall i (by omega)
        simp only [Array.getD_eq_getD_getElem?, Array.getElem?_eq_getElem hi, Option.getD_some] at h1 this
        rw [h1] at this
        cases this
    | succ fuel ih =>
      intro l a w hl hc hcl hI
      refine ⟨fun hr => hdone _ a w (all_of l hl hr) hI, fun i hm => ?_⟩
      obtain ⟨h1, o, h2, h3⟩ := mem_ready.1 hm
      have hi : i < n := by rw [← hn]; exact (Array.getElem?_eq_some_iff.1 h2).1
      have hil : i < l.size := by omega
      have hbi : l.getD i false = false := by
        simp only [Array.getD_eq_getD_getElem?, Array.getElem?_eq_getElem hil, Option.getD_some] at h1 ⊢
        exact h1
      have hneed : ∀ r, T.2[i]? = some r → ∀ j ∈ r.1, l.getD j false = true := by
        intro r hr j hj
        rw [ready_eq, hT] at hm
        unfold readyT at hm
        have := (List.mem_filter.1 hm).2
        unfold readyAt at this
        rw [hr, Bool.and_eq_true] at this
        have h5 := List.all_eq_true.1 this.2 j hj
        rw [← gd] at h5
        exact h5
      have hf : ∀ j, (l.setIfInBounds i true).getD j false = if j = i then true else l.getD j false := by
        intro j
        by_cases hji : j = i
        · subst hji
          rw [if_pos rfl]
          simp [Array.getD_eq_getD_getElem?, hil]
        · rw [if_neg hji]
          simp [Array.getD_eq_getD_getElem?, Array.getElem?_setIfInBounds, Ne.symm hji]
      refine wpOp_mono (fun a' w' h' => ih _ a' w' (by rw [Array.size_setIfInBounds]; exact hl) ?_ ?_ ?_) (hstep i (fun j => l.getD j false) a w hi hbi hneed hcl hI)
      · have hlt : (List.range n).countP (fun j => !(l.setIfInBounds i true).getD j false) < (List.range n).countP (fun j => !l.getD j false) := by
          rw [List.countP_eq_length_filter, List.countP_eq_length_filter]
          have hsub : ((List.range n).filter (fun j => !(l.setIfInBounds i true).getD j false)) = (((List.range n).filter (fun j => !l.getD j false)).filter (fun j => !(j == i))) := by
            rw [List.filter_filter]
            refine List.filter_congr (fun j _ => ?_)
            rw [hf j]
            by_cases hji : j = i
            · subst hji
              simp
            · rw [if_neg hji]
              simp [hji]
          rw [hsub]
          have hmem : i ∈ (List.range n).filter (fun j => !l.getD j false) := List.mem_filter.2 ⟨List.mem_range.2 hi, by rw [hbi]; rfl⟩
          exact List.length_filter_lt_length_iff_exists.2 ⟨i, hmem, by simp⟩
        omega
      · intro j r hj hr q hq
        rw [hf] at hj ⊢
        by_cases hji : j = i
        · subst hji
          split
          · rfl
          · exact hneed r hr q hq
        · rw [if_neg hji] at hj
          split
          · rfl
          · exact hcl j r hj hr q hq
      · have : (fun j => (l.setIfInBounds i true).getD j false) = fun j => if j = i then true else l.getD j false := funext hf
        rw [this]
        exact h'
  have hz : ∀ j, (Array.replicate n false).getD j false = false := by
    intro j
    simp only [Array.getD_eq_getD_getElem?, Array.getElem?_replicate]
    split <;> rfl
  refine key n _ a w (by simp) ?_ ?_ ?_
  · exact Nat.le_trans List.countP_le_length (by rw [List.length_range]; exact Nat.le_refl _)
  · intro j r hj
    rw [hz] at hj
    cases hj
  · have : (fun j => (Array.replicate n false).getD j false) = fun _ => false := funext hz
    rw [this]
    exact h0
theorem empty_V {α : Type} (d : Kd α) (e : Nat) (w : World) (base : Nat) (A : Option Addr) (c : Nat) : Kd.V d e w base (fun _ => False) (.slice A ([] : List α).length c) [] :=
  ⟨A, c, rfl, Nat.zero_le _, fun W' _ => ⟨rfl, by simp, fun h => absurd h (Nat.lt_irrefl 0)⟩⟩
theorem empty_F {α : Type} (d : Kd α) (w : World) (ok : Nat → Prop) (A : Option Addr) : Kd.F d w ok A ([] : List α).length [] := fun W' _ => ⟨rfl, by simp, fun h => absurd h (Nat.lt_irrefl 0)⟩
theorem leaf_lit (a b : Int) (w : World) : Calls Try.prog 50 #[.int .i64 a, .int .i64 b] w fun e w' => ∃ A c, e = .returned (.agg #[.int .i64 a, .int .i64 b, .slice A 0 c]) ∧ Below w.heap.size w w' := by
  refine (spec_l4Leaf.calls a b a b [] w rfl).mono ?_
  rintro e w' ⟨v, rfl, hr, hb⟩
  obtain ⟨A, c, rfl⟩ := Kd.N_slice (Kd.R_N hr)
  exact ⟨A, c, rfl, hb⟩
theorem both_lit (o a1 b1 : Int) (A1 : Option Addr) (c1 : Nat) (a2 b2 : Int) (A2 : Option Addr) (c2 : Nat) (w : World) : Calls Try.prog 59 #[.int .i64 o, .agg #[.int .i64 a1, .int .i64 b1, .slice A1 0 c1], .agg #[.int .i64 a2, .int .i64 b2, .slice A2 0 c2]] w fun e w' => ∃ A c, e = .returned (.agg #[.int .i64 o, .int .i64 0, .slice A 2 c]) ∧ Kd.N k34 34 w' w.heap.size (fun k => w.heap.size ≤ k) (.slice A 2 c) [⟨a1, b1, []⟩, ⟨a2, b2, []⟩] ∧ Below w.heap.size w w' := by
  refine (spec_l4Both.calls o a1 b1 (fun _ => False) A1 c1 [] a2 b2 (fun _ => False) A2 c2 [] o 0 [⟨a1, b1, []⟩, ⟨a2, b2, []⟩] w (empty_V k34 34 w _ A1 c1) (empty_V k34 34 w _ A2 c2) rfl).mono ?_
  rintro e w' ⟨v, rfl, hr, hb⟩
  obtain ⟨A, c, rfl⟩ := Kd.N_slice hr
  exact ⟨A, c, rfl, Kd.N_mono hr (fun k hk => hk.elim (fun h => h.elim False.elim False.elim) id), hb⟩
structure F92 (w0 w W0 : World) (g h2 : Nat) (s0_0 : List Int) (t355 t377 t378 : Int) (v8 : Value) (t352 : List S36) (A30 : Option Addr) (c30 : Nat) (A33 : Option Addr) (c33 : Nat) (A34 : Option Addr) (c34 : Nat) (g10 : Nat) (b3 b6 b9 b10 b12 b13 : Bool) (W : World) : Prop where
  hK : KeepBut W0 W g (cond b10 v8.ownBlock none)
  hI : IsS61 w0 W g s0_0 (cond b3 t378 t355)
  hB : Below w0.heap.size w0 W
  h30 : b6 = true → Kd.N k34 34 W W0.heap.size (fun k => W0.heap.size ≤ k ∧ (b12 = true → k ≠ g10)) (.slice A30 2 c30) [⟨13, 3, []⟩, ⟨0, wrap64 (1 + t377), []⟩]
  h33 : b9 = true → Kd.N k36 36 W h2 (fun k => h2 ≤ k ∧ (b12 = true → k ≠ g10)) (.slice A33 1 c33) [(⟨1, 3, 0, ⟨8, 0, [⟨13, 3, []⟩, ⟨0, 1, []⟩]⟩, [], []⟩ : S36)]
  h34 : b10 = true → Kd.N k36 36 W w.heap.size (fun k => w.heap.size ≤ k ∧ (b12 = true → k ≠ g10)) (.slice A34 (t352 ++ [(⟨1, 3, 0, ⟨8, 0, [⟨13, 3, []⟩, ⟨0, 1, []⟩]⟩, [], []⟩ : S36)]).length c34) (t352 ++ [(⟨1, 3, 0, ⟨8, 0, [⟨13, 3, []⟩, ⟨0, 1, []⟩]⟩, [], []⟩ : S36)])
  h10 : b12 = true → W0.heap.size ≤ g10 ∧ W.heap[g10]? = some (.cells (cond b13 #[.int .i64 3, .int .i64 0, .int .i64 0, .int .i64 5, .int .i64 0, .slice A30 2 c30, .slice A34 (t352 ++ [(⟨1, 3, 0, ⟨8, 0, [⟨13, 3, []⟩, ⟨0, 1, []⟩]⟩, [], []⟩ : S36)]).length c34, .slice none 0 0] #[.int .i64 0, .int .i64 0, .int .i64 0, .int .i64 0, .int .i64 0, .slice none 0 0, .slice none 0 0, .slice none 0 0]) 36 (0, 0))
theorem F92.ext {w0 w W0 : World} {g h2 : Nat} {s0_0 : List Int} {t355 t377 t378 : Int} {v8 : Value} {t352 : List S36} {A30 : Option Addr} {c30 : Nat} {A33 : Option Addr} {c33 : Nat} {A34 : Option Addr} {c34 : Nat} {g10 : Nat} {b3 b6 b9 b10 b12 b13 : Bool} {W W' : World}
    (h : F92 w0 w W0 g h2 s0_0 t355 t377 t378 v8 t352 A30 c30 A33 c33 A34 c34 g10 b3 b6 b9 b10 b12 b13 W) (hb : Below W.heap.size W W') : F92 w0 w W0 g h2 s0_0 t355 t377 t378 v8 t352 A30 c30 A33 c33 A34 c34 g10 b3 b6 b9 b10 b12 b13 W' :=
  ⟨h.hK.trans (KeepBut.of_below hb g _) (.inl rfl), h.hI.below hb, below_step h.hB hb, fun e => Kd.N_below (h.h30 e) hb, fun e => Kd.N_below (h.h33 e) hb, fun e => Kd.N_below (h.h34 e) hb, fun e => ⟨(h.h10 e).1, blk_below (h.h10 e).2 hb⟩⟩
def a92 (g g9 : Nat) (a1 a2 t350 t377 : Int) (v8 : Value) (t352 : List S36) (A20 : Option Addr) (c20 : Nat) (A21 : Option Addr) (c21 : Nat) (A22 : Option Addr) (c22 : Nat) (A1 : Option Addr) (c1 : Nat) (A2 : Option Addr) (c2 : Nat) (A30 : Option Addr) (c30 : Nat) (A33 : Option Addr) (c33 : Nat) (A34 : Option Addr) (c34 : Nat) (g10 : Nat) (b0 b1 b2 b3 b4 b5 b6 b7 b8 b9 b10 b11 b12 b13 : Bool) : Act :=
  { tmps := #[(.pointer (some ⟨g, 0, none⟩)), (.int .i64 a1), (.int .i64 a2), undef, undef, undef, (.slice none 0 0), (.int .i64 3), v8, (.pointer (some ⟨g9, 0, none⟩)), cond b12 (.pointer (some ⟨g10, 0, none⟩)) undef, (.pointer (some ⟨g, 0, none⟩)), (.int .i64 a1), (.int .i64 a2), (.int .i64 (wrap64 (a2 - 1))), (.pointer (some ⟨g, 0, none⟩)), (.int .i64 t350), v8, (.int .i64 3), (.int .i64 3), (.agg #[.int .i64 13, .int .i64 3, .slice A20 0 c20]), (.agg #[.int .i64 0, .int .i64 1, .slice A21 0 c21]), (.agg #[.int .i64 8, .int .i64 0, .slice A22 2 c22]), (.agg #[.int .i64 1, .int .i64 3, .int .i64 0, .int .i64 8, .int .i64 0, .slice A22 2 c22, .slice none 0 0, .slice none 0 0]), cond b0 (.int .i64 3) undef, cond b1 (.agg #[.int .i64 13, .int .i64 3, .slice A1 0 c1]) undef, cond b2 (.pointer (some ⟨g, 0, none⟩)) undef, cond b3 (.int .i64 t377) undef, cond b4 (.int .i64 (wrap64 (1 + t377))) undef, cond b5 (.agg #[.int .i64 0, .int .i64 (wrap64 (1 + t377)), .slice A2 0 c2]) undef, cond b6 (.agg #[.int .i64 5, .int .i64 0, .slice A30 2 c30]) undef, cond b7 v8 undef, cond b8 (.agg #[.int .i64 1, .int .i64 3, .int .i64 0, .int .i64 8, .int .i64 0, .slice A22 2 c22, .slice none 0 0, .slice none 0 0]) undef, cond b9 (.slice A33 1 c33) undef, cond b10 (.slice A34 (t352 ++ [(⟨1, 3, 0, ⟨8, 0, [⟨13, 3, []⟩, ⟨0, 1, []⟩]⟩, [], []⟩ : S36)]).length c34) undef, cond b11 (.agg #[.int .i64 3, .int .i64 0, .int .i64 0, .int .i64 5, .int .i64 0, .slice A30 2 c30, .slice A34 (t352 ++ [(⟨1, 3, 0, ⟨8, 0, [⟨13, 3, []⟩, ⟨0, 1, []⟩]⟩, [], []⟩ : S36)]).length c34, .slice none 0 0]) undef, undef, undef, undef, undef, undef], defers := [] }
def L92 (w0 w W0 : World) (g g9 h2 : Nat) (s0_0 : List Int) (a1 a2 t350 t355 t377 t378 : Int) (v8 : Value) (t352 : List S36) (A20 : Option Addr) (c20 : Nat) (A21 : Option Addr) (c21 : Nat) (A22 : Option Addr) (c22 : Nat) (b0 b1 b2 b3 b4 b5 b6 b7 b8 b9 b10 b11 b12 b13 : Bool) (a : Act) (W : World) : Prop :=
  ∃ (A1 : Option Addr) (c1 : Nat) (A2 : Option Addr) (c2 : Nat) (A30 : Option Addr) (c30 : Nat) (A33 : Option Addr) (c33 : Nat) (A34 : Option Addr) (c34 : Nat) (g10 : Nat), a = a92 g g9 a1 a2 t350 t377 v8 t352 A20 c20 A21 c21 A22 c22 A1 c1 A2 c2 A30 c30 A33 c33 A34 c34 g10 b0 b1 b2 b3 b4 b5 b6 b7 b8 b9 b10 b11 b12 b13 ∧ F92 w0 w W0 g h2 s0_0 t355 t377 t378 v8 t352 A30 c30 A33 c33 A34 c34 g10 b3 b6 b9 b10 b12 b13 W
def spec_l92Loop.T4 : Bool × List (List Nat × List Nat) := (true, [([], []), ([0], [0]), ([], []), ([2, 1], [2]), ([3], [3]), ([4, 3], [4]), ([1, 5, 5], [1, 5]), ([], []), ([], []), ([8], [8]), ([7, 9, 6], [7, 9]), ([6, 10], [6, 10]), ([], []), ([12, 11, 10, 0, 1, 2, 3, 4, 5, 6, 7, 8, 9, 10, 11, 12], [11, 12])])
theorem spec_l92Loop.tab4 : rtab .any (opsOf Try.f63 4) = spec_l92Loop.T4 := by kernel_rfl
set_option maxHeartbeats 8000000 in
set_option maxRecDepth 100000 in
theorem spec_l92Loop.step (k : Nat) (ih_spec_l92If : ∀ m, m < k → spec_l92If.CallsAt m) (ih_spec_l92Loop : ∀ m, m < k → spec_l92Loop.CallsAt m) (ih_spec_l92Stmt : ∀ m, m < k → spec_l92Stmt.CallsAt m) (ih_spec_l92Block : ∀ m, m < k → spec_l92Block.CallsAt m) : spec_l92Loop.CallsAt k := by
  intro g s0_0 s0_1 a1 a2 r1 r2 w0 w hI hB h
  cases k with
  | zero => exact absurd h (by simp [spec_l92Loop.f])
  | succ k =>
  simp only [spec_l92Loop.f] at h
  replace h := Option.bind_eq_some_iff.mp h
  obtain ⟨⟨t350, t351⟩, hp, h⟩ := h
  replace h := Option.bind_eq_some_iff.mp h
  obtain ⟨⟨t352, t355⟩, hbk, h⟩ := h
  simp only [spec_l4Leaf.f, spec_l4Both.f, Option.bind_some] at h
  replace h := Option.bind_eq_some_iff.mp h
  obtain ⟨⟨t377, t378⟩, hp2, h⟩ := h
  dsimp only at h hp2 hbk
  by_cases c13 : t352.length + 1 < 1256584717458
  case neg =>
    rw [if_neg (by simpa using c13)] at h
    exact absurd h (by simp)
  rw [if_pos (by simpa using c13)] at h
  have h1 := Option.some.inj h
  injection h1 with h1 h2
  subst h2
  have A4 := Aside0.mk hp
  have A5 := Aside0.mk hbk
  have A10 := Aside0.mk hp2
  have LM := Aside0.mk c13
  have HR := Aside0.mk h1
  have HI := Aside0.mk hI
  have HB := Aside0.mk hB
  have HK := Aside0.mk (KeepBut.refl w g none)
  have HGW := Aside0.mk (IsS61.lt hI)
  clear h1 h hp hbk hp2 c13 hI hB
  go_enter Try.func63, Try.ntmps63
  go_wp2_with (first | ((with_reducible refine gate_callee (f := 30) rfl ?_); refine goesL_ (some 16) rfl rfl Try.func30 (by kernel_rfl) rfl #[.pointer (some ⟨g, 0, none⟩), .int .i64 3] rfl (by (try simp only [List.map_toArray, List.map_cons, List.map_nil]); first | done | rfl) ?_; (with_reducible refine (spec_l6Rd_pick.calls k g s0_0 s0_1 3 t350 t351 w0 _ ?side1 ?side2 A4.out).mono ?_); (case side1 => repeat (first | (with_reducible first | exact HI.out | apply IsS61.drewN | apply IsS61.drew) | exact HI.out)); (case side2 => repeat (first | (with_reducible first | exact HB.out | apply pw_below_drewN | apply below_drew1) | exact HB.out)); rintro e w15 ⟨rfl, hi, hb, hk⟩; refine ⟨_, rfl, ?_⟩; have n0_ := Aside0.mk (KeepBut.trans ab65_ hk (.inl rfl)); clear HK HB HI; have HK := n0_; have HB := Aside0.mk hb; have HI := Aside0.mk hi; have HS15 := Aside0.mk HK.out.1; clear n0_ hb hk hi) | ((with_reducible refine gate_callee (f := 49) rfl ?_); refine goesL_ (some 17) rfl rfl Try.func49 (by kernel_rfl) rfl #[.pointer (some ⟨g, 0, none⟩), .int .i64 a1, .int .i64 (wrap64 (a2 - 1)), .int .i64 t350, .bool false] rfl (by (try simp only [List.map_toArray, List.map_cons, List.map_nil]); first | done | rfl) ?_; (with_reducible refine (ih_spec_l92Block k (by omega) g s0_0 t351 a1 (wrap64 (a2 - 1)) t350 false t352 t355 w0 _ ?side1 ?side2 A5.out).mono ?_); (case side1 => repeat (first | (with_reducible first | exact HI.out | apply IsS61.drewN | apply IsS61.drew) | exact HI.out)); (case side2 => repeat (first | (with_reducible first | exact HB.out | apply pw_below_drewN | apply below_drew1) | exact HB.out)); rintro e w16 ⟨v8, rfl, ho0, hi, hb, hk⟩; refine ⟨_, rfl, ?_⟩; have n0_ := Aside0.mk (KeepBut.trans ab65_ hk (.inl rfl)); have n1_ := Aside0.mk (Kd.N_lower ho0 (by repeat (first | exact HK.out.1 | apply keep_drewN | apply keep_drew))); clear HK HB HI; have HK := n0_; have HB := Aside0.mk hb; have HI := Aside0.mk hi; have H8 := n1_; clear n0_ n1_ hb hk hi ho0) | ((with_reducible refine gate_callee (f := 50) rfl ?_); refine goesL_ (some 20) rfl rfl Try.func50 (by kernel_rfl) rfl #[.int .i64 13, .int .i64 3] rfl (by (try simp only [List.map_toArray, List.map_cons, List.map_nil]); first | done | rfl) ?_; (with_reducible refine (leaf_lit 13 3 _).mono ?_); rintro e w17 ⟨A20, c20, rfl, hb⟩; refine ⟨_, rfl, ?_⟩; have B17 := Aside0.mk hb; clear hb) | ((with_reducible refine gate_callee (f := 50) rfl ?_); refine goesL_ (some 21) rfl rfl Try.func50 (by kernel_rfl) rfl #[.int .i64 0, .int .i64 1] rfl (by (try simp only [List.map_toArray, List.map_cons, List.map_nil]); first | done | rfl) ?_; (with_reducible refine (leaf_lit 0 1 _).mono ?_); rintro e w18 ⟨A21, c21, rfl, hb⟩; refine ⟨_, rfl, ?_⟩; have B18 := Aside0.mk hb; clear hb) | ((with_reducible refine gate_callee (f := 59) rfl ?_); refine goesL_ (some 22) rfl rfl Try.func59 (by kernel_rfl) rfl #[.int .i64 8, .agg #[.int .i64 13, .int .i64 3, .slice A20 0 c20], .agg #[.int .i64 0, .int .i64 1, .slice A21 0 c21]] rfl (by (try simp only [List.map_toArray, List.map_cons, List.map_nil]); first | done | rfl) ?_; (with_reducible refine (both_lit 8 13 3 A20 c20 0 1 A21 c21 _).mono ?_); rintro e w19 ⟨A22, c22, rfl, hn22, hb⟩; refine ⟨_, rfl, ?_⟩; have N22 := Aside0.mk hn22; have B19 := Aside0.mk hb; clear hb hn22) | ((with_reducible refine gate_dst (N := 9) rfl ?_); refine box_event (N := 9) ?hg ?hd (cs := #[.int .i64 0, .int .i64 0, .int .i64 0, .int .i64 0, .int .i64 0, .slice none 0 0, .slice none 0 0, .slice none 0 0]) (t := 36) ?hr ?_; (case hd => rfl); (case hg => rfl); (case hr => first | (go_simp; done) | (go_simp; rfl)); intro g9 hg w20 hbox hb; have HG9 := Aside0.mk (Nat.le_of_eq hg.symm); have B20 := Aside0.mk hb; have X9 := Aside0.mk hbox; have z9 := blk_frozen hbox 0; have z91 := blk_frozen hbox 1; have z92 := blk_frozen hbox 2; have z93 := blk_frozen hbox 3; have z94 := blk_frozen hbox 4; have z95 := blk_frozen hbox 5; have z96 := blk_frozen hbox 6; have z97 := blk_frozen hbox 7; have y90 := blk_cell hbox 0;  have y91 := blk_cell hbox 1; have y92 := blk_cell hbox 2; have y93 := blk_cell hbox 3; have y94 := blk_cell hbox 4; have y95 := blk_cell hbox 5; have y96 := blk_cell hbox 6; have y97 := blk_cell hbox 7; clear hb hg hbox) | fail)
  have HB9 : Aside0 (Below w16.heap.size w16 w19) := ⟨below_step (below_step B17.out B18.out) B19.out⟩
  have h1619 := HB9.out.size
  have h1920 := B20.out.size
  have h1819 := B19.out.size
  have h1618 := (below_step B17.out B18.out).size
  have h9lt := blk_lt X9.out
  have hg9 := HG9.out
  have hw16 := HK.out.1
  have hgw0 := HGW.out
  have b20 : Below w16.heap.size w16 w20 := below_step HB9.out B20.out
  have HWQ : Aside0 (Below w16.heap.size w16 ((((((((w20.setCell ⟨g9, 0, none⟩ (.int .i64 1)).setCell ⟨g9, 1, none⟩ (.int .i64 3)).setCell ⟨g9, 2, none⟩ (.int .i64 0)).setCell ⟨g9, 3, none⟩ (.int .i64 8)).setCell ⟨g9, 4, none⟩ (.int .i64 0)).setCell ⟨g9, 5, none⟩ (.slice A22 2 c22)).setCell ⟨g9, 6, none⟩ (.slice none 0 0)).setCell ⟨g9, 7, none⟩ (.slice none 0 0))) := ⟨(below_set (j := 7) (v := (.slice none 0 0)) (below_set (j := 6) (v := (.slice none 0 0)) (below_set (j := 5) (v := (.slice A22 2 c22)) (below_set (j := 4) (v := (.int .i64 0)) (below_set (j := 3) (v := (.int .i64 8)) (below_set (j := 2) (v := (.int .i64 0)) (below_set (j := 1) (v := (.int .i64 3)) (below_set (j := 0) (v := (.int .i64 1)) b20 (by omega)) (by omega)) (by omega)) (by omega)) (by omega)) (by omega)) (by omega)) (by omega))⟩
  have X9' : Aside0 (((((((((w20.setCell ⟨g9, 0, none⟩ (.int .i64 1)).setCell ⟨g9, 1, none⟩ (.int .i64 3)).setCell ⟨g9, 2, none⟩ (.int .i64 0)).setCell ⟨g9, 3, none⟩ (.int .i64 8)).setCell ⟨g9, 4, none⟩ (.int .i64 0)).setCell ⟨g9, 5, none⟩ (.slice A22 2 c22)).setCell ⟨g9, 6, none⟩ (.slice none 0 0)).setCell ⟨g9, 7, none⟩ (.slice none 0 0)).heap[g9]? = some (.cells #[(.int .i64 1), (.int .i64 3), (.int .i64 0), (.int .i64 8), (.int .i64 0), (.slice A22 2 c22), (.slice none 0 0), (.slice none 0 0)] 36 (0, 0))) := ⟨(blk_put (cs' := #[(.int .i64 1), (.int .i64 3), (.int .i64 0), (.int .i64 8), (.int .i64 0), (.slice A22 2 c22), (.slice none 0 0), (.slice none 0 0)]) (blk_put (cs' := #[(.int .i64 1), (.int .i64 3), (.int .i64 0), (.int .i64 8), (.int .i64 0), (.slice A22 2 c22), (.slice none 0 0), (.slice none 0 0)]) (blk_put (cs' := #[(.int .i64 1), (.int .i64 3), (.int .i64 0), (.int .i64 8), (.int .i64 0), (.slice A22 2 c22), (.slice none 0 0), (.slice none 0 0)]) (blk_put (cs' := #[(.int .i64 1), (.int .i64 3), (.int .i64 0), (.int .i64 8), (.int .i64 0), (.slice none 0 0), (.slice none 0 0), (.slice none 0 0)]) (blk_put (cs' := #[(.int .i64 1), (.int .i64 3), (.int .i64 0), (.int .i64 8), (.int .i64 0), (.slice none 0 0), (.slice none 0 0), (.slice none 0 0)]) (blk_put (cs' := #[(.int .i64 1), (.int .i64 3), (.int .i64 0), (.int .i64 0), (.int .i64 0), (.slice none 0 0), (.slice none 0 0), (.slice none 0 0)]) (blk_put (cs' := #[(.int .i64 1), (.int .i64 3), (.int .i64 0), (.int .i64 0), (.int .i64 0), (.slice none 0 0), (.slice none 0 0), (.slice none 0 0)]) (blk_put (cs' := #[(.int .i64 1), (.int .i64 0), (.int .i64 0), (.int .i64 0), (.int .i64 0), (.slice none 0 0), (.slice none 0 0), (.slice none 0 0)]) X9.out 0 (.int .i64 1) rfl) 1 (.int .i64 3) rfl) 2 (.int .i64 0) rfl) 3 (.int .i64 8) rfl) 4 (.int .i64 0) rfl) 5 (.slice A22 2 c22) rfl) 6 (.slice none 0 0) rfl) 7 (.slice none 0 0) rfl)⟩
  have N22' : Aside0 (Kd.N k34 34 ((((((((w20.setCell ⟨g9, 0, none⟩ (.int .i64 1)).setCell ⟨g9, 1, none⟩ (.int .i64 3)).setCell ⟨g9, 2, none⟩ (.int .i64 0)).setCell ⟨g9, 3, none⟩ (.int .i64 8)).setCell ⟨g9, 4, none⟩ (.int .i64 0)).setCell ⟨g9, 5, none⟩ (.slice A22 2 c22)).setCell ⟨g9, 6, none⟩ (.slice none 0 0)).setCell ⟨g9, 7, none⟩ (.slice none 0 0)) w18.heap.size (fun k => (w18.heap.size ≤ k ∧ k < w19.heap.size) ∧ k ≠ g9) (.slice A22 2 c22) [⟨13, 3, []⟩, ⟨0, 1, []⟩]) := ⟨(Kd.N_far (p := ⟨g9, 7, none⟩) (Kd.N_far (p := ⟨g9, 6, none⟩) (Kd.N_far (p := ⟨g9, 5, none⟩) (Kd.N_far (p := ⟨g9, 4, none⟩) (Kd.N_far (p := ⟨g9, 3, none⟩) (Kd.N_far (p := ⟨g9, 2, none⟩) (Kd.N_far (p := ⟨g9, 1, none⟩) (Kd.N_far (p := ⟨g9, 0, none⟩) (Kd.N_mono (Kd.N_below (Kd.N_bound N22.out) B20.out) (fun q (hq : w18.heap.size ≤ q ∧ q < w19.heap.size) => (⟨hq, by have := hq.2; omega⟩ : (w18.heap.size ≤ q ∧ q < w19.heap.size) ∧ q ≠ g9))) (fun q hq => hq.2) (.int .i64 1)) (fun q hq => hq.2) (.int .i64 3)) (fun q hq => hq.2) (.int .i64 0)) (fun q hq => hq.2) (.int .i64 8)) (fun q hq => hq.2) (.int .i64 0)) (fun q hq => hq.2) (.slice A22 2 c22)) (fun q hq => hq.2) (.slice none 0 0)) (fun q hq => hq.2) (.slice none 0 0))⟩
  clear y90 y91 y92 y93 y94 y95 y96 y97 z9 z91 z92 z93 z94 z95 z96 z97 X9
  generalize ((((((((w20.setCell ⟨g9, 0, none⟩ (.int .i64 1)).setCell ⟨g9, 1, none⟩ (.int .i64 3)).setCell ⟨g9, 2, none⟩ (.int .i64 0)).setCell ⟨g9, 3, none⟩ (.int .i64 8)).setCell ⟨g9, 4, none⟩ (.int .i64 0)).setCell ⟨g9, 5, none⟩ (.slice A22 2 c22)).setCell ⟨g9, 6, none⟩ (.slice none 0 0)).setCell ⟨g9, 7, none⟩ (.slice none 0 0)) = w27 at HWQ X9' N22' ⊢
  have h27 := HWQ.out.size
  have h27' := blk_lt X9'.out
  refine wp_region_any (by kernel_rfl) ?_
  have B9 := Aside0.mk (blk_drew X9'.out)
  have N22_ := Kd.N_drew N22'.out
  have H8_ := Kd.N_drew (Kd.N_below (Kd.N_mono (Kd.N_bound H8.out) (fun q (hq : w15.heap.size ≤ q ∧ q < w16.heap.size) => (⟨by have := hq.1; have := HS15.out; omega, hq.2⟩ : w.heap.size ≤ q ∧ q < w16.heap.size))) HWQ.out)
  have HI_ := IsS61.drew (HI.out.below HWQ.out)
  have HB_ := below_drew1 (below_step HB.out HWQ.out)
  have HK_ := keep_drew (KeepBut.trans HK.out (KeepBut.of_below HWQ.out g none) (.inl rfl))
  have hsz : w27.drew.heap.size = w27.heap.size := rfl
  show wpAny _ _ _ _ _ _ _ w27.drew
  generalize w27.drew = W0 at B9 N22_ H8_ HI_ HB_ HK_ hsz ⊢
  have N22 : Aside0 (Kd.N k34 34 W0 w18.heap.size (fun k => w16.heap.size ≤ k ∧ k < W0.heap.size) (.slice A22 2 c22) [⟨13, 3, []⟩, ⟨0, 1, []⟩]) := ⟨Kd.N_mono N22_ (fun q hq => ⟨by have := hq.1.1; omega, by have := hq.1.2; omega⟩)⟩
  have H8' := Aside0.mk H8_
  have HI' := Aside0.mk HI_
  have HB' := Aside0.mk HB_
  have HK' := Aside0.mk HK_
  have H24 : Aside0 (w16.heap.size ≤ W0.heap.size) := ⟨by omega⟩
  have HH2 : Aside0 (w.heap.size ≤ w16.heap.size) := ⟨hw16⟩
  have NE9 : Aside0 (g9 ≠ g) := ⟨by omega⟩
  clear N22_ H8_ HI_ HB_ HK_ HI HB HK H8 N22' X9' HWQ b20 HB9 hsz h27 h27' h1619 h1920 h1819 h1618 h9lt hg9 B17 B18 B19 B20 HG9 HS15 hw16 hgw0
  generalize w16.heap.size = h2 at *
  have H8 := H8'
  clear H8'
  refine any_inv (n := 14) (T := spec_l92Loop.T4) rfl (by kernel_rfl) (by decide) (fun b a W => L92 w0 w W0 g g9 h2 s0_0 a1 a2 t350 t355 t377 t378 v8 t352 A20 c20 A21 c21 A22 c22 (b 0) (b 1) (b 2) (b 3) (b 4) (b 5) (b 6) (b 7) (b 8) (b 9) (b 10) (b 11) (b 12) (b 13) a W) ?hstep ?hdone _ _ ?hstart
  case hstart => exact ⟨none, 0, none, 0, none, 0, none, 0, none, 0, 0, rfl, ⟨KeepBut.refl _ _ _, HI'.out, HB'.out, (fun e => Bool.noConfusion e), (fun e => Bool.noConfusion e), (fun e => Bool.noConfusion e), (fun e => Bool.noConfusion e)⟩⟩
  case hstep =>
    intro i b a W hi hbi hneed hcl hI
    have hcase : i = 0 ∨ i = 1 ∨ i = 2 ∨ i = 3 ∨ i = 4 ∨ i = 5 ∨ i = 6 ∨ i = 7 ∨ i = 8 ∨ i = 9 ∨ i = 10 ∨ i = 11 ∨ i = 12 ∨ i = 13 := by omega
    rcases hcase with rfl | rfl | rfl | rfl | rfl | rfl | rfl | rfl | rfl | rfl | rfl | rfl | rfl | rfl
    · -- 0
      have z1 : b 1 = false := by
        cases hz : b 1 with
        | false => rfl
        | true =>
          have hq := hcl 1 _ hz rfl 0 (by decide)
          rw [hbi] at hq
          cases hq
      have z3 : b 3 = false := by
        cases hz : b 3 with
        | false => rfl
        | true =>
          have hq := hcl 3 _ hz rfl 1 (by decide)
          rw [z1] at hq
          cases hq
      have z4 : b 4 = false := by
        cases hz : b 4 with
        | false => rfl
        | true =>
          have hq := hcl 4 _ hz rfl 3 (by decide)
          rw [z3] at hq
          cases hq
      have z5 : b 5 = false := by
        cases hz : b 5 with
        | false => rfl
        | true =>
          have hq := hcl 5 _ hz rfl 3 (by decide)
          rw [z3] at hq
          cases hq
      have z6 : b 6 = false := by
        cases hz : b 6 with
        | false => rfl
        | true =>
          have hq := hcl 6 _ hz rfl 1 (by decide)
          rw [z1] at hq
          cases hq
      have z10 : b 10 = false := by
        cases hz : b 10 with
        | false => rfl
        | true =>
          have hq := hcl 10 _ hz rfl 6 (by decide)
          rw [z6] at hq
          cases hq
      have z11 : b 11 = false := by
        cases hz : b 11 with
        | false => rfl
        | true =>
          have hq := hcl 11 _ hz rfl 6 (by decide)
          rw [z6] at hq
          cases hq
      have z13 : b 13 = false := by
        cases hz : b 13 with
        | false => rfl
        | true =>
          have hq := hcl 13 _ hz rfl 0 (by decide)
          rw [hbi] at hq
          cases hq
      have hpost : ∀ a' W', L92 w0 w W0 g g9 h2 s0_0 a1 a2 t350 t355 t377 t378 v8 t352 A20 c20 A21 c21 A22 c22 true false (b 2) false false false false (b 7) (b 8) (b 9) false false (b 12) false a' W' → (fun b a W => L92 w0 w W0 g g9 h2 s0_0 a1 a2 t350 t355 t377 t378 v8 t352 A20 c20 A21 c21 A22 c22 (b 0) (b 1) (b 2) (b 3) (b 4) (b 5) (b 6) (b 7) (b 8) (b 9) (b 10) (b 11) (b 12) (b 13) a W) (fun j => if j = 0 then true else b j) a' W' := fun a' W' hh => by
        show L92 w0 w W0 g g9 h2 s0_0 a1 a2 t350 t355 t377 t378 v8 t352 A20 c20 A21 c21 A22 c22 true (b 1) (b 2) (b 3) (b 4) (b 5) (b 6) (b 7) (b 8) (b 9) (b 10) (b 11) (b 12) (b 13) a' W'
        rw [z1, z3, z4, z5, z6, z10, z11, z13]
        exact hh
      replace hI : L92 w0 w W0 g g9 h2 s0_0 a1 a2 t350 t355 t377 t378 v8 t352 A20 c20 A21 c21 A22 c22 (b 0) (b 1) (b 2) (b 3) (b 4) (b 5) (b 6) (b 7) (b 8) (b 9) (b 10) (b 11) (b 12) (b 13) a W := hI
      rw [hbi, z1, z3, z4, z5, z6, z10, z11, z13] at hI
      obtain ⟨A1, c1, A2, c2, A30, c30, A33, c33, A34, c34, g10, rfl, h⟩ := hI
      have hgw := HGW.out
      have hh2 := HH2.out
      have h24 := H24.out
      refine wpOp_step rfl (fun K' hK' => ?_)
      refine event_step (W := W) (w1 := W) (v := ?_) (by rfl) ?_ ?_
      rotate_left
      · (try simp only [a92, cond_true, cond_false])
        go_simp
        first | with_reducible rfl | rfl
      refine hK' _ _ (hpost _ _ ⟨A1, c1, A2, c2, A30, c30, A33, c33, A34, c34, g10, ?_, h⟩)
      show Act.put _ (some 24) _ = _
      simp only [a92, Act.put, List.setIfInBounds_toArray, List.set_cons_zero, List.set_cons_succ, i64_w, i32_w]
      rfl
    · -- 1
      have n0 : b 0 = true := hneed _ rfl 0 (by decide)
      have z3 : b 3 = false := by
        cases hz : b 3 with
        | false => rfl
        | true =>
          have hq := hcl 3 _ hz rfl 1 (by decide)
          rw [hbi] at hq
          cases hq
      have z4 : b 4 = false := by
        cases hz : b 4 with
        | false => rfl
        | true =>
          have hq := hcl 4 _ hz rfl 3 (by decide)
          rw [z3] at hq
          cases hq
      have z5 : b 5 = false := by
        cases hz : b 5 with
        | false => rfl
        | true =>
          have hq := hcl 5 _ hz rfl 3 (by decide)
          rw [z3] at hq
          cases hq
      have z6 : b 6 = false := by
        cases hz : b 6 with
        | false => rfl
        | true =>
          have hq := hcl 6 _ hz rfl 1 (by decide)
          rw [hbi] at hq
          cases hq
      have z10 : b 10 = false := by
        cases hz : b 10 with
        | false => rfl
        | true =>
          have hq := hcl 10 _ hz rfl 6 (by decide)
          rw [z6] at hq
          cases hq
      have z11 : b 11 = false := by
        cases hz : b 11 with
        | false => rfl
        | true =>
          have hq := hcl 11 _ hz rfl 6 (by decide)
          rw [z6] at hq
          cases hq
      have z13 : b 13 = false := by
        cases hz : b 13 with
        | false => rfl
        | true =>
          have hq := hcl 13 _ hz rfl 1 (by decide)
          rw [hbi] at hq
          cases hq
      have hpost : ∀ a' W', L92 w0 w W0 g g9 h2 s0_0 a1 a2 t350 t355 t377 t378 v8 t352 A20 c20 A21 c21 A22 c22 true true (b 2) false false false false (b 7) (b 8) (b 9) false false (b 12) false a' W' → (fun b a W => L92 w0 w W0 g g9 h2 s0_0 a1 a2 t350 t355 t377 t378 v8 t352 A20 c20 A21 c21 A22 c22 (b 0) (b 1) (b 2) (b 3) (b 4) (b 5) (b 6) (b 7) (b 8) (b 9) (b 10) (b 11) (b 12) (b 13) a W) (fun j => if j = 1 then true else b j) a' W' := fun a' W' hh => by
        show L92 w0 w W0 g g9 h2 s0_0 a1 a2 t350 t355 t377 t378 v8 t352 A20 c20 A21 c21 A22 c22 (b 0) true (b 2) (b 3) (b 4) (b 5) (b 6) (b 7) (b 8) (b 9) (b 10) (b 11) (b 12) (b 13) a' W'
        rw [n0, z3, z4, z5, z6, z10, z11, z13]
        exact hh
      replace hI : L92 w0 w W0 g g9 h2 s0_0 a1 a2 t350 t355 t377 t378 v8 t352 A20 c20 A21 c21 A22 c22 (b 0) (b 1) (b 2) (b 3) (b 4) (b 5) (b 6) (b 7) (b 8) (b 9) (b 10) (b 11) (b 12) (b 13) a W := hI
      rw [hbi, n0, z3, z4, z5, z6, z10, z11, z13] at hI
      obtain ⟨A1, c1, A2, c2, A30, c30, A33, c33, A34, c34, g10, rfl, h⟩ := hI
      have hgw := HGW.out
      have hh2 := HH2.out
      have h24 := H24.out
      refine wpOp_step rfl (fun K' hK' => ?_)
      refine goes_ Try.func50 (by kernel_rfl) rfl #[.int .i64 13, .int .i64 3] (by rfl) rfl rfl (by (try simp only [List.map_toArray, List.map_cons, List.map_nil]); first | done | rfl) ?_
      refine (leaf_lit 13 3 _).mono ?_
      rintro e W' ⟨A, c, rfl, hb⟩
      refine ⟨_, rfl, hK' _ _ (hpost _ _ ⟨A, c, A2, c2, A30, c30, A33, c33, A34, c34, g10, ?_, h.ext hb⟩)⟩
      show Act.put _ (some 25) _ = _
      simp only [a92, Act.put, List.setIfInBounds_toArray, List.set_cons_zero, List.set_cons_succ]
      rfl
    · -- 2
      have z3 : b 3 = false := by
        cases hz : b 3 with
        | false => rfl
        | true =>
          have hq := hcl 3 _ hz rfl 2 (by decide)
          rw [hbi] at hq
          cases hq
      have z4 : b 4 = false := by
        cases hz : b 4 with
        | false => rfl
        | true =>
          have hq := hcl 4 _ hz rfl 3 (by decide)
          rw [z3] at hq
          cases hq
      have z5 : b 5 = false := by
        cases hz : b 5 with
        | false => rfl
        | true =>
          have hq := hcl 5 _ hz rfl 3 (by decide)
          rw [z3] at hq
          cases hq
      have z6 : b 6 = false := by
        cases hz : b 6 with
        | false => rfl
        | true =>
          have hq := hcl 6 _ hz rfl 5 (by decide)
          rw [z5] at hq
          cases hq
      have z10 : b 10 = false := by
        cases hz : b 10 with
        | false => rfl
        | true =>
          have hq := hcl 10 _ hz rfl 6 (by decide)
          rw [z6] at hq
          cases hq
      have z11 : b 11 = false := by
        cases hz : b 11 with
        | false => rfl
        | true =>
          have hq := hcl 11 _ hz rfl 6 (by decide)
          rw [z6] at hq
          cases hq
      have z13 : b 13 = false := by
        cases hz : b 13 with
        | false => rfl
        | true =>
          have hq := hcl 13 _ hz rfl 2 (by decide)
          rw [hbi] at hq
          cases hq
      have hpost : ∀ a' W', L92 w0 w W0 g g9 h2 s0_0 a1 a2 t350 t355 t377 t378 v8 t352 A20 c20 A21 c21 A22 c22 (b 0) (b 1) true false false false false (b 7) (b 8) (b 9) false false (b 12) false a' W' → (fun b a W => L92 w0 w W0 g g9 h2 s0_0 a1 a2 t350 t355 t377 t378 v8 t352 A20 c20 A21 c21 A22 c22 (b 0) (b 1) (b 2) (b 3) (b 4) (b 5) (b 6) (b 7) (b 8) (b 9) (b 10) (b 11) (b 12) (b 13) a W) (fun j => if j = 2 then true else b j) a' W' := fun a' W' hh => by
        show L92 w0 w W0 g g9 h2 s0_0 a1 a2 t350 t355 t377 t378 v8 t352 A20 c20 A21 c21 A22 c22 (b 0) (b 1) true (b 3) (b 4) (b 5) (b 6) (b 7) (b 8) (b 9) (b 10) (b 11) (b 12) (b 13) a' W'
        rw [z3, z4, z5, z6, z10, z11, z13]
        exact hh
      replace hI : L92 w0 w W0 g g9 h2 s0_0 a1 a2 t350 t355 t377 t378 v8 t352 A20 c20 A21 c21 A22 c22 (b 0) (b 1) (b 2) (b 3) (b 4) (b 5) (b 6) (b 7) (b 8) (b 9) (b 10) (b 11) (b 12) (b 13) a W := hI
      rw [hbi, z3, z4, z5, z6, z10, z11, z13] at hI
      obtain ⟨A1, c1, A2, c2, A30, c30, A33, c33, A34, c34, g10, rfl, h⟩ := hI
      have hgw := HGW.out
      have hh2 := HH2.out
      have h24 := H24.out
      refine wpOp_step rfl (fun K' hK' => ?_)
      refine event_step (W := W) (w1 := W) (v := ?_) (by rfl) ?_ ?_
      rotate_left
      · (try simp only [a92, cond_true, cond_false])
        go_simp
        first | with_reducible rfl | rfl
      refine hK' _ _ (hpost _ _ ⟨A1, c1, A2, c2, A30, c30, A33, c33, A34, c34, g10, ?_, h⟩)
      show Act.put _ (some 26) _ = _
      simp only [a92, Act.put, List.setIfInBounds_toArray, List.set_cons_zero, List.set_cons_succ, i64_w, i32_w]
      rfl
    · -- 3
      have n1 : b 1 = true := hneed _ rfl 1 (by decide)
      have n2 : b 2 = true := hneed _ rfl 2 (by decide)
      have z4 : b 4 = false := by
        cases hz : b 4 with
        | false => rfl
        | true =>
          have hq := hcl 4 _ hz rfl 3 (by decide)
          rw [hbi] at hq
          cases hq
      have z5 : b 5 = false := by
        cases hz : b 5 with
        | false => rfl
        | true =>
          have hq := hcl 5 _ hz rfl 3 (by decide)
          rw [hbi] at hq
          cases hq
      have z6 : b 6 = false := by
        cases hz : b 6 with
        | false => rfl
        | true =>
          have hq := hcl 6 _ hz rfl 5 (by decide)
          rw [z5] at hq
          cases hq
      have z10 : b 10 = false := by
        cases hz : b 10 with
        | false => rfl
        | true =>
          have hq := hcl 10 _ hz rfl 6 (by decide)
          rw [z6] at hq
          cases hq
      have z11 : b 11 = false := by
        cases hz : b 11 with
        | false => rfl
        | true =>
          have hq := hcl 11 _ hz rfl 6 (by decide)
          rw [z6] at hq
          cases hq
      have z13 : b 13 = false := by
        cases hz : b 13 with
        | false => rfl
        | true =>
          have hq := hcl 13 _ hz rfl 3 (by decide)
          rw [hbi] at hq
          cases hq
      have hpost : ∀ a' W', L92 w0 w W0 g g9 h2 s0_0 a1 a2 t350 t355 t377 t378 v8 t352 A20 c20 A21 c21 A22 c22 (b 0) true true true false false false (b 7) (b 8) (b 9) false false (b 12) false a' W' → (fun b a W => L92 w0 w W0 g g9 h2 s0_0 a1 a2 t350 t355 t377 t378 v8 t352 A20 c20 A21 c21 A22 c22 (b 0) (b 1) (b 2) (b 3) (b 4) (b 5) (b 6) (b 7) (b 8) (b 9) (b 10) (b 11) (b 12) (b 13) a W) (fun j => if j = 3 then true else b j) a' W' := fun a' W' hh => by
        show L92 w0 w W0 g g9 h2 s0_0 a1 a2 t350 t355 t377 t378 v8 t352 A20 c20 A21 c21 A22 c22 (b 0) (b 1) (b 2) true (b 4) (b 5) (b 6) (b 7) (b 8) (b 9) (b 10) (b 11) (b 12) (b 13) a' W'
        rw [n1, n2, z4, z5, z6, z10, z11, z13]
        exact hh
      replace hI : L92 w0 w W0 g g9 h2 s0_0 a1 a2 t350 t355 t377 t378 v8 t352 A20 c20 A21 c21 A22 c22 (b 0) (b 1) (b 2) (b 3) (b 4) (b 5) (b 6) (b 7) (b 8) (b 9) (b 10) (b 11) (b 12) (b 13) a W := hI
      rw [hbi, n1, n2, z4, z5, z6, z10, z11, z13] at hI
      obtain ⟨A1, c1, A2, c2, A30, c30, A33, c33, A34, c34, g10, rfl, h⟩ := hI
      have hgw := HGW.out
      have hh2 := HH2.out
      have h24 := H24.out
      refine wpOp_step rfl (fun K' hK' => ?_)
      refine goes_ Try.func30 (by kernel_rfl) rfl #[.pointer (some ⟨g, 0, none⟩), .int .i64 3] (by rfl) rfl rfl (by (try simp only [List.map_toArray, List.map_cons, List.map_nil]); first | done | rfl) ?_
      refine (spec_l6Rd_pick.calls k g s0_0 t355 3 t377 t378 w0 _ h.hI h.hB A10.out).mono ?_
      rintro e W' ⟨rfl, hi, hb, hk⟩
      have hlt := h.hK.1
      refine ⟨_, rfl, hK' _ _ (hpost _ _ ⟨A1, c1, A2, c2, A30, c30, A33, c33, A34, c34, g10, ?_, ⟨h.hK.trans hk ?_, hi, hb, fun e => Kd.N_keep (h.h30 e) hk (fun q hq => ?_), fun e => Kd.N_keep (h.h33 e) hk (fun q hq => ?_), fun e => Kd.N_keep (h.h34 e) hk (fun q hq => ?_), fun e => ⟨(h.h10 e).1, hk.blk (h.h10 e).2 ?_ (by simp)⟩⟩⟩)⟩
      · show Act.put _ (some 27) _ = _
        simp only [a92, Act.put, List.setIfInBounds_toArray, List.set_cons_zero, List.set_cons_succ]
        rfl
      · exact .inl rfl
      · have := hq.1; omega
      · have := hq.1; omega
      · have := hq.1; omega
      · have := (h.h10 e).1; omega
    · -- 4
      have n3 : b 3 = true := hneed _ rfl 3 (by decide)
      have z5 : b 5 = false := by
        cases hz : b 5 with
        | false => rfl
        | true =>
          have hq := hcl 5 _ hz rfl 4 (by decide)
          rw [hbi] at hq
          cases hq
      have z6 : b 6 = false := by
        cases hz : b 6 with
        | false => rfl
        | true =>
          have hq := hcl 6 _ hz rfl 5 (by decide)
          rw [z5] at hq
          cases hq
      have z10 : b 10 = false := by
        cases hz : b 10 with
        | false => rfl
        | true =>
          have hq := hcl 10 _ hz rfl 6 (by decide)
          rw [z6] at hq
          cases hq
      have z11 : b 11 = false := by
        cases hz : b 11 with
        | false => rfl
        | true =>
          have hq := hcl 11 _ hz rfl 6 (by decide)
          rw [z6] at hq
          cases hq
      have z13 : b 13 = false := by
        cases hz : b 13 with
        | false => rfl
        | true =>
          have hq := hcl 13 _ hz rfl 4 (by decide)
          rw [hbi] at hq
          cases hq
      have hpost : ∀ a' W', L92 w0 w W0 g g9 h2 s0_0 a1 a2 t350 t355 t377 t378 v8 t352 A20 c20 A21 c21 A22 c22 (b 0) (b 1) (b 2) true true false false (b 7) (b 8) (b 9) false false (b 12) false a' W' → (fun b a W => L92 w0 w W0 g g9 h2 s0_0 a1 a2 t350 t355 t377 t378 v8 t352 A20 c20 A21 c21 A22 c22 (b 0) (b 1) (b 2) (b 3) (b 4) (b 5) (b 6) (b 7) (b 8) (b 9) (b 10) (b 11) (b 12) (b 13) a W) (fun j => if j = 4 then true else b j) a' W' := fun a' W' hh => by
        show L92 w0 w W0 g g9 h2 s0_0 a1 a2 t350 t355 t377 t378 v8 t352 A20 c20 A21 c21 A22 c22 (b 0) (b 1) (b 2) (b 3) true (b 5) (b 6) (b 7) (b 8) (b 9) (b 10) (b 11) (b 12) (b 13) a' W'
        rw [n3, z5, z6, z10, z11, z13]
        exact hh
      replace hI : L92 w0 w W0 g g9 h2 s0_0 a1 a2 t350 t355 t377 t378 v8 t352 A20 c20 A21 c21 A22 c22 (b 0) (b 1) (b 2) (b 3) (b 4) (b 5) (b 6) (b 7) (b 8) (b 9) (b 10) (b 11) (b 12) (b 13) a W := hI
      rw [hbi, n3, z5, z6, z10, z11, z13] at hI
      obtain ⟨A1, c1, A2, c2, A30, c30, A33, c33, A34, c34, g10, rfl, h⟩ := hI
      have hgw := HGW.out
      have hh2 := HH2.out
      have h24 := H24.out
      refine wpOp_step rfl (fun K' hK' => ?_)
      refine event_step (W := W) (w1 := W) (v := ?_) (by rfl) ?_ ?_
      rotate_left
      · (try simp only [a92, cond_true, cond_false])
        go_simp
        first | with_reducible rfl | rfl
      refine hK' _ _ (hpost _ _ ⟨A1, c1, A2, c2, A30, c30, A33, c33, A34, c34, g10, ?_, h⟩)
      show Act.put _ (some 28) _ = _
      simp only [a92, Act.put, List.setIfInBounds_toArray, List.set_cons_zero, List.set_cons_succ, i64_w, i32_w]
      rfl
    · -- 5
      have n3 : b 3 = true := hneed _ rfl 3 (by decide)
      have n4 : b 4 = true := hneed _ rfl 4 (by decide)
      have z6 : b 6 = false := by
        cases hz : b 6 with
        | false => rfl
        | true =>
          have hq := hcl 6 _ hz rfl 5 (by decide)
          rw [hbi] at hq
          cases hq
      have z10 : b 10 = false := by
        cases hz : b 10 with
        | false => rfl
        | true =>
          have hq := hcl 10 _ hz rfl 6 (by decide)
          rw [z6] at hq
          cases hq
      have z11 : b 11 = false := by
        cases hz : b 11 with
        | false => rfl
        | true =>
          have hq := hcl 11 _ hz rfl 6 (by decide)
          rw [z6] at hq
          cases hq
      have z13 : b 13 = false := by
        cases hz : b 13 with
        | false => rfl
        | true =>
          have hq := hcl 13 _ hz rfl 5 (by decide)
          rw [hbi] at hq
          cases hq
      have hpost : ∀ a' W', L92 w0 w W0 g g9 h2 s0_0 a1 a2 t350 t355 t377 t378 v8 t352 A20 c20 A21 c21 A22 c22 (b 0) (b 1) (b 2) true true true false (b 7) (b 8) (b 9) false false (b 12) false a' W' → (fun b a W => L92 w0 w W0 g g9 h2 s0_0 a1 a2 t350 t355 t377 t378 v8 t352 A20 c20 A21 c21 A22 c22 (b 0) (b 1) (b 2) (b 3) (b 4) (b 5) (b 6) (b 7) (b 8) (b 9) (b 10) (b 11) (b 12) (b 13) a W) (fun j => if j = 5 then true else b j) a' W' := fun a' W' hh => by
        show L92 w0 w W0 g g9 h2 s0_0 a1 a2 t350 t355 t377 t378 v8 t352 A20 c20 A21 c21 A22 c22 (b 0) (b 1) (b 2) (b 3) (b 4) true (b 6) (b 7) (b 8) (b 9) (b 10) (b 11) (b 12) (b 13) a' W'
        rw [n3, n4, z6, z10, z11, z13]
        exact hh
      replace hI : L92 w0 w W0 g g9 h2 s0_0 a1 a2 t350 t355 t377 t378 v8 t352 A20 c20 A21 c21 A22 c22 (b 0) (b 1) (b 2) (b 3) (b 4) (b 5) (b 6) (b 7) (b 8) (b 9) (b 10) (b 11) (b 12) (b 13) a W := hI
      rw [hbi, n3, n4, z6, z10, z11, z13] at hI
      obtain ⟨A1, c1, A2, c2, A30, c30, A33, c33, A34, c34, g10, rfl, h⟩ := hI
      have hgw := HGW.out
      have hh2 := HH2.out
      have h24 := H24.out
      refine wpOp_step rfl (fun K' hK' => ?_)
      refine goes_ Try.func50 (by kernel_rfl) rfl #[.int .i64 0, .int .i64 (wrap64 (1 + t377))] (by rfl) rfl rfl (by (try simp only [List.map_toArray, List.map_cons, List.map_nil]); first | done | rfl) ?_
      refine (leaf_lit 0 (wrap64 (1 + t377)) _).mono ?_
      rintro e W' ⟨A, c, rfl, hb⟩
      refine ⟨_, rfl, hK' _ _ (hpost _ _ ⟨A1, c1, A, c, A30, c30, A33, c33, A34, c34, g10, ?_, h.ext hb⟩)⟩
      show Act.put _ (some 29) _ = _
      simp only [a92, Act.put, List.setIfInBounds_toArray, List.set_cons_zero, List.set_cons_succ]
      rfl
    · -- 6
      have n1 : b 1 = true := hneed _ rfl 1 (by decide)
      have n5 : b 5 = true := hneed _ rfl 5 (by decide)
      have z10 : b 10 = false := by
        cases hz : b 10 with
        | false => rfl
        | true =>
          have hq := hcl 10 _ hz rfl 6 (by decide)
          rw [hbi] at hq
          cases hq
      have z11 : b 11 = false := by
        cases hz : b 11 with
        | false => rfl
        | true =>
          have hq := hcl 11 _ hz rfl 6 (by decide)
          rw [hbi] at hq
          cases hq
      have z13 : b 13 = false := by
        cases hz : b 13 with
        | false => rfl
        | true =>
          have hq := hcl 13 _ hz rfl 6 (by decide)
          rw [hbi] at hq
          cases hq
      have hpost : ∀ a' W', L92 w0 w W0 g g9 h2 s0_0 a1 a2 t350 t355 t377 t378 v8 t352 A20 c20 A21 c21 A22 c22 (b 0) true (b 2) (b 3) (b 4) true true (b 7) (b 8) (b 9) false false (b 12) false a' W' → (fun b a W => L92 w0 w W0 g g9 h2 s0_0 a1 a2 t350 t355 t377 t378 v8 t352 A20 c20 A21 c21 A22 c22 (b 0) (b 1) (b 2) (b 3) (b 4) (b 5) (b 6) (b 7) (b 8) (b 9) (b 10) (b 11) (b 12) (b 13) a W) (fun j => if j = 6 then true else b j) a' W' := fun a' W' hh => by
        show L92 w0 w W0 g g9 h2 s0_0 a1 a2 t350 t355 t377 t378 v8 t352 A20 c20 A21 c21 A22 c22 (b 0) (b 1) (b 2) (b 3) (b 4) (b 5) true (b 7) (b 8) (b 9) (b 10) (b 11) (b 12) (b 13) a' W'
        rw [n1, n5, z10, z11, z13]
        exact hh
      replace hI : L92 w0 w W0 g g9 h2 s0_0 a1 a2 t350 t355 t377 t378 v8 t352 A20 c20 A21 c21 A22 c22 (b 0) (b 1) (b 2) (b 3) (b 4) (b 5) (b 6) (b 7) (b 8) (b 9) (b 10) (b 11) (b 12) (b 13) a W := hI
      rw [hbi, n1, n5, z10, z11, z13] at hI
      obtain ⟨A1, c1, A2, c2, A30, c30, A33, c33, A34, c34, g10, rfl, h⟩ := hI
      have hgw := HGW.out
      have hh2 := HH2.out
      have h24 := H24.out
      refine wpOp_step rfl (fun K' hK' => ?_)
      refine goes_ Try.func59 (by kernel_rfl) rfl #[.int .i64 5, (.agg #[.int .i64 13, .int .i64 3, .slice A1 0 c1]), (.agg #[.int .i64 0, .int .i64 (wrap64 (1 + t377)), .slice A2 0 c2])] (by rfl) rfl rfl (by (try simp only [List.map_toArray, List.map_cons, List.map_nil]); first | done | rfl) ?_
      refine (both_lit 5 13 3 A1 c1 0 (wrap64 (1 + t377)) A2 c2 _).mono ?_
      rintro e W' ⟨A, c, rfl, hn, hb⟩
      have hlt := h.hK.1
      have h' := h.ext hb
      refine ⟨_, rfl, hK' _ _ (hpost _ _ ⟨A1, c1, A2, c2, A, c, A33, c33, A34, c34, g10, ?_, ⟨h'.hK, h'.hI, h'.hB, fun _ => Kd.N_mono (Kd.N_lower hn hlt) (fun q hq => ⟨Nat.le_trans hlt hq, fun e => ?_⟩), h'.h33, (fun e => Bool.noConfusion e), fun e => ⟨(h'.h10 e).1, (h'.h10 e).2⟩⟩⟩)⟩
      · show Act.put _ (some 30) _ = _
        simp only [a92, Act.put, List.setIfInBounds_toArray, List.set_cons_zero, List.set_cons_succ]
        rfl
      · have := blk_lt (h.h10 e).2; omega
    · -- 7
      have z10 : b 10 = false := by
        cases hz : b 10 with
        | false => rfl
        | true =>
          have hq := hcl 10 _ hz rfl 7 (by decide)
          rw [hbi] at hq
          cases hq
      have z11 : b 11 = false := by
        cases hz : b 11 with
        | false => rfl
        | true =>
          have hq := hcl 11 _ hz rfl 10 (by decide)
          rw [z10] at hq
          cases hq
      have z13 : b 13 = false := by
        cases hz : b 13 with
        | false => rfl
        | true =>
          have hq := hcl 13 _ hz rfl 7 (by decide)
          rw [hbi] at hq
          cases hq
      have hpost : ∀ a' W', L92 w0 w W0 g g9 h2 s0_0 a1 a2 t350 t355 t377 t378 v8 t352 A20 c20 A21 c21 A22 c22 (b 0) (b 1) (b 2) (b 3) (b 4) (b 5) (b 6) true (b 8) (b 9) false false (b 12) false a' W' → (fun b a W => L92 w0 w W0 g g9 h2 s0_0 a1 a2 t350 t355 t377 t378 v8 t352 A20 c20 A21 c21 A22 c22 (b 0) (b 1) (b 2) (b 3) (b 4) (b 5) (b 6) (b 7) (b 8) (b 9) (b 10) (b 11) (b 12) (b 13) a W) (fun j => if j = 7 then true else b j) a' W' := fun a' W' hh => by
        show L92 w0 w W0 g g9 h2 s0_0 a1 a2 t350 t355 t377 t378 v8 t352 A20 c20 A21 c21 A22 c22 (b 0) (b 1) (b 2) (b 3) (b 4) (b 5) (b 6) true (b 8) (b 9) (b 10) (b 11) (b 12) (b 13) a' W'
        rw [z10, z11, z13]
        exact hh
      replace hI : L92 w0 w W0 g g9 h2 s0_0 a1 a2 t350 t355 t377 t378 v8 t352 A20 c20 A21 c21 A22 c22 (b 0) (b 1) (b 2) (b 3) (b 4) (b 5) (b 6) (b 7) (b 8) (b 9) (b 10) (b 11) (b 12) (b 13) a W := hI
      rw [hbi, z10, z11, z13] at hI
      obtain ⟨A1, c1, A2, c2, A30, c30, A33, c33, A34, c34, g10, rfl, h⟩ := hI
      have hgw := HGW.out
      have hh2 := HH2.out
      have h24 := H24.out
      refine wpOp_step rfl (fun K' hK' => ?_)
      refine event_step (W := W) (w1 := W) (v := ?_) (by rfl) ?_ ?_
      rotate_left
      · (try simp only [a92, cond_true, cond_false])
        go_simp
        first | with_reducible rfl | rfl
      refine hK' _ _ (hpost _ _ ⟨A1, c1, A2, c2, A30, c30, A33, c33, A34, c34, g10, ?_, h⟩)
      show Act.put _ (some 31) _ = _
      simp only [a92, Act.put, List.setIfInBounds_toArray, List.set_cons_zero, List.set_cons_succ, i64_w, i32_w]
      rfl
    · -- 8
      have z9 : b 9 = false := by
        cases hz : b 9 with
        | false => rfl
        | true =>
          have hq := hcl 9 _ hz rfl 8 (by decide)
          rw [hbi] at hq
          cases hq
      have z10 : b 10 = false := by
        cases hz : b 10 with
        | false => rfl
        | true =>
          have hq := hcl 10 _ hz rfl 9 (by decide)
          rw [z9] at hq
          cases hq
      have z11 : b 11 = false := by
        cases hz : b 11 with
        | false => rfl
        | true =>
          have hq := hcl 11 _ hz rfl 10 (by decide)
          rw [z10] at hq
          cases hq
      have z13 : b 13 = false := by
        cases hz : b 13 with
        | false => rfl
        | true =>
          have hq := hcl 13 _ hz rfl 8 (by decide)
          rw [hbi] at hq
          cases hq
      have hpost : ∀ a' W', L92 w0 w W0 g g9 h2 s0_0 a1 a2 t350 t355 t377 t378 v8 t352 A20 c20 A21 c21 A22 c22 (b 0) (b 1) (b 2) (b 3) (b 4) (b 5) (b 6) (b 7) true false false false (b 12) false a' W' → (fun b a W => L92 w0 w W0 g g9 h2 s0_0 a1 a2 t350 t355 t377 t378 v8 t352 A20 c20 A21 c21 A22 c22 (b 0) (b 1) (b 2) (b 3) (b 4) (b 5) (b 6) (b 7) (b 8) (b 9) (b 10) (b 11) (b 12) (b 13) a W) (fun j => if j = 8 then true else b j) a' W' := fun a' W' hh => by
        show L92 w0 w W0 g g9 h2 s0_0 a1 a2 t350 t355 t377 t378 v8 t352 A20 c20 A21 c21 A22 c22 (b 0) (b 1) (b 2) (b 3) (b 4) (b 5) (b 6) (b 7) true (b 9) (b 10) (b 11) (b 12) (b 13) a' W'
        rw [z9, z10, z11, z13]
        exact hh
      replace hI : L92 w0 w W0 g g9 h2 s0_0 a1 a2 t350 t355 t377 t378 v8 t352 A20 c20 A21 c21 A22 c22 (b 0) (b 1) (b 2) (b 3) (b 4) (b 5) (b 6) (b 7) (b 8) (b 9) (b 10) (b 11) (b 12) (b 13) a W := hI
      rw [hbi, z9, z10, z11, z13] at hI
      obtain ⟨A1, c1, A2, c2, A30, c30, A33, c33, A34, c34, g10, rfl, h⟩ := hI
      have hgw := HGW.out
      have hh2 := HH2.out
      have h24 := H24.out
      refine wpOp_step rfl (fun K' hK' => ?_)
      have h9 := h.hK.blk B9.out NE9.out (by simp)
      have q0 : W.cell? ⟨g9, 0, none⟩ = some (.int .i64 1) := blk_cell h9 0
      have q1 : W.cell? ⟨g9, 1, none⟩ = some (.int .i64 3) := blk_cell h9 1
      have q2 : W.cell? ⟨g9, 2, none⟩ = some (.int .i64 0) := blk_cell h9 2
      have q3 : W.cell? ⟨g9, 3, none⟩ = some (.int .i64 8) := blk_cell h9 3
      have q4 : W.cell? ⟨g9, 4, none⟩ = some (.int .i64 0) := blk_cell h9 4
      have q5 : W.cell? ⟨g9, 5, none⟩ = some (.slice A22 2 c22) := blk_cell h9 5
      have q6 : W.cell? ⟨g9, 6, none⟩ = some (.slice none 0 0) := blk_cell h9 6
      have q7 : W.cell? ⟨g9, 7, none⟩ = some (.slice none 0 0) := blk_cell h9 7
      refine event_step (W := W) (w1 := W) (v := ?_) (by rfl) ?_ ?_
      rotate_left
      · (try simp only [a92, cond_true, cond_false])
        go_simp
        first | with_reducible rfl | rfl
      refine hK' _ _ (hpost _ _ ⟨A1, c1, A2, c2, A30, c30, A33, c33, A34, c34, g10, ?_, h⟩)
      show Act.put _ (some 32) _ = _
      simp only [a92, Act.put, List.setIfInBounds_toArray, List.set_cons_zero, List.set_cons_succ, i64_w, i32_w]
      rfl
    · -- 9
      have n8 : b 8 = true := hneed _ rfl 8 (by decide)
      have z10 : b 10 = false := by
        cases hz : b 10 with
        | false => rfl
        | true =>
          have hq := hcl 10 _ hz rfl 9 (by decide)
          rw [hbi] at hq
          cases hq
      have z11 : b 11 = false := by
        cases hz : b 11 with
        | false => rfl
        | true =>
          have hq := hcl 11 _ hz rfl 10 (by decide)
          rw [z10] at hq
          cases hq
      have z13 : b 13 = false := by
        cases hz : b 13 with
        | false => rfl
        | true =>
          have hq := hcl 13 _ hz rfl 9 (by decide)
          rw [hbi] at hq
          cases hq
      have hpost : ∀ a' W', L92 w0 w W0 g g9 h2 s0_0 a1 a2 t350 t355 t377 t378 v8 t352 A20 c20 A21 c21 A22 c22 (b 0) (b 1) (b 2) (b 3) (b 4) (b 5) (b 6) (b 7) true true false false (b 12) false a' W' → (fun b a W => L92 w0 w W0 g g9 h2 s0_0 a1 a2 t350 t355 t377 t378 v8 t352 A20 c20 A21 c21 A22 c22 (b 0) (b 1) (b 2) (b 3) (b 4) (b 5) (b 6) (b 7) (b 8) (b 9) (b 10) (b 11) (b 12) (b 13) a W) (fun j => if j = 9 then true else b j) a' W' := fun a' W' hh => by
        show L92 w0 w W0 g g9 h2 s0_0 a1 a2 t350 t355 t377 t378 v8 t352 A20 c20 A21 c21 A22 c22 (b 0) (b 1) (b 2) (b 3) (b 4) (b 5) (b 6) (b 7) (b 8) true (b 10) (b 11) (b 12) (b 13) a' W'
        rw [n8, z10, z11, z13]
        exact hh
      replace hI : L92 w0 w W0 g g9 h2 s0_0 a1 a2 t350 t355 t377 t378 v8 t352 A20 c20 A21 c21 A22 c22 (b 0) (b 1) (b 2) (b 3) (b 4) (b 5) (b 6) (b 7) (b 8) (b 9) (b 10) (b 11) (b 12) (b 13) a W := hI
      rw [hbi, n8, z10, z11, z13] at hI
      obtain ⟨A1, c1, A2, c2, A30, c30, A33, c33, A34, c34, g10, rfl, h⟩ := hI
      have hgw := HGW.out
      have hh2 := HH2.out
      have h24 := H24.out
      refine wpOp_step rfl (fun K' hK' => ?_)
      have hlt := h.hK.1
      have hn22 := Kd.N_keep N22.out (show KeepBut W0 W g none from h.hK) (fun q hq => by have := hq.1; omega)
      refine Kd.N_lit_step k36 W.heap.size 36 ?hg (N' := 33) ?hd (w0 := W) (xs := [(⟨1, 3, 0, ⟨8, 0, [⟨13, 3, []⟩, ⟨0, 1, []⟩]⟩, [], []⟩ : S36)]) (inner := [.int .i64 1, .int .i64 3, .int .i64 0, .int .i64 8, .int .i64 0, .slice A22 2 c22, .slice none 0 0, .slice none 0 0]) (ok := fun k => h2 ≤ k ∧ (b 12 = true → k ≠ g10)) (okp := fun k => h2 ≤ k ∧ k < W0.heap.size) ?hr ?hp ?ho ?hf (Below.refl _ _) (Nat.le_refl _) (by simp) ?_
      case hd => rfl
      case hg => rfl
      case hr => (try simp only [a92, cond_true, cond_false]); first | (go_simp; done) | (go_simp; rfl)
      case hp => exact Reps.c8 (show Kd.FK k36 _ _ ((⟨1, 3, 0, ⟨8, 0, [⟨13, 3, []⟩, ⟨0, 1, []⟩]⟩, [], []⟩ : S36) : S36) [.int .i64 1, .int .i64 3, .int .i64 0, .int .i64 8, .int .i64 0, .slice A22 2 c22, .slice none 0 0, .slice none 0 0] from k36_mkF _ _ ((⟨1, 3, 0, ⟨8, 0, [⟨13, 3, []⟩, ⟨0, 1, []⟩]⟩, [], []⟩ : S36) : S36) (Kd.N_reads' hn22).2.1 (Kd.N_F hn22) (Nat.le_refl _) (Kd.F_nil _ _ _) (Nat.le_refl _) (Kd.F_nil _ _ _)) (Reps.none _ _)
      case ho => exact fun q hq => ⟨hq.1, fun e => by have := (h.h10 e).1; omega⟩
      case hf => exact ⟨by have := H24.out; omega, fun e => by have := blk_lt (h.h10 e).2; omega⟩
      intro v1 W' hn hb _ _
      obtain ⟨A, c, rfl⟩ := Kd.N_slice hn
      have h' := h.ext hb
      refine hK' _ _ (hpost _ _ ⟨A1, c1, A2, c2, A30, c30, A, c, A34, c34, g10, ?_, ⟨h'.hK, h'.hI, h'.hB, h'.h30, fun _ => Kd.N_lower hn (by have := H24.out; omega), h'.h34, h'.h10⟩⟩)
      show Act.put _ (some 33) _ = _
      simp only [a92, Act.put, List.setIfInBounds_toArray, List.set_cons_zero, List.set_cons_succ]
      rfl
    · -- 10
      have n6 : b 6 = true := hneed _ rfl 6 (by decide)
      have n7 : b 7 = true := hneed _ rfl 7 (by decide)
      have n9 : b 9 = true := hneed _ rfl 9 (by decide)
      have z11 : b 11 = false := by
        cases hz : b 11 with
        | false => rfl
        | true =>
          have hq := hcl 11 _ hz rfl 10 (by decide)
          rw [hbi] at hq
          cases hq
      have z13 : b 13 = false := by
        cases hz : b 13 with
        | false => rfl
        | true =>
          have hq := hcl 13 _ hz rfl 10 (by decide)
          rw [hbi] at hq
          cases hq
      have hpost : ∀ a' W', L92 w0 w W0 g g9 h2 s0_0 a1 a2 t350 t355 t377 t378 v8 t352 A20 c20 A21 c21 A22 c22 (b 0) (b 1) (b 2) (b 3) (b 4) (b 5) true true (b 8) true true false (b 12) false a' W' → (fun b a W => L92 w0 w W0 g g9 h2 s0_0 a1 a2 t350 t355 t377 t378 v8 t352 A20 c20 A21 c21 A22 c22 (b 0) (b 1) (b 2) (b 3) (b 4) (b 5) (b 6) (b 7) (b 8) (b 9) (b 10) (b 11) (b 12) (b 13) a W) (fun j => if j = 10 then true else b j) a' W' := fun a' W' hh => by
        show L92 w0 w W0 g g9 h2 s0_0 a1 a2 t350 t355 t377 t378 v8 t352 A20 c20 A21 c21 A22 c22 (b 0) (b 1) (b 2) (b 3) (b 4) (b 5) (b 6) (b 7) (b 8) (b 9) true (b 11) (b 12) (b 13) a' W'
        rw [n6, n7, n9, z11, z13]
        exact hh
      replace hI : L92 w0 w W0 g g9 h2 s0_0 a1 a2 t350 t355 t377 t378 v8 t352 A20 c20 A21 c21 A22 c22 (b 0) (b 1) (b 2) (b 3) (b 4) (b 5) (b 6) (b 7) (b 8) (b 9) (b 10) (b 11) (b 12) (b 13) a W := hI
      rw [hbi, n6, n7, n9, z11, z13] at hI
      obtain ⟨A1, c1, A2, c2, A30, c30, A33, c33, A34, c34, g10, rfl, h⟩ := hI
      have hgw := HGW.out
      have hh2 := HH2.out
      have h24 := H24.out
      refine wpOp_step rfl (fun K' hK' => ?_)
      have hlt := h.hK.1
      have hK0 : KeepBut W0 W g none := h.hK
      have h8 := Kd.N_keep H8.out hK0 (fun q hq => by have := hq.1; omega)
      have hn33 := h.h33 rfl
      have own8 : ∀ q, v8.ownBlock = some q → w.heap.size ≤ q ∧ q < h2 := fun q hq => H8.out.1 q hq
      refine Kd.N_append_rows_step k36 (w0 := W) w.heap.size (by rfl) (.tmp 31) (.tmp 33) 25 36 (.agg #[.int .i64 0, .int .i64 0, .int .i64 0, .int .i64 0, .int .i64 0, .slice none 0 0, .slice none 0 0, .slice none 0 0]) 112 rfl Try.underlying25 info36 rfl (by decide) (by omega) v8 t352 [(⟨1, 3, 0, ⟨8, 0, [⟨13, 3, []⟩, ⟨0, 1, []⟩]⟩, [], []⟩ : S36)] A33 1 c33 (fun k => w.heap.size ≤ k ∧ (b 12 = true → k ≠ g10)) (fun k => h2 ≤ k ∧ (b 12 = true → k ≠ g10)) rfl rfl (Kd.N_mono h8 ?aO) (Kd.N_F hn33) ?aK ?aF ?aB ?aS ?aL ?_
      case aO => exact fun q hq => ⟨hq.1, fun e => by have := (h.h10 e).1; have := hq.2; have := H24.out; omega⟩
      case aK => exact fun q hq => ⟨⟨by have := HH2.out; have := hq.1; omega, hq.2⟩, fun e => by have := (own8 q e.symm).2; have := hq.1; omega⟩
      case aF => exact fun q hq => ⟨by have := HH2.out; have := H24.out; omega, fun e => by have := blk_lt (h.h10 e).2; omega⟩
      case aB => exact Below.refl _ _
      case aS => have := HH2.out; have := H24.out; omega
      case aL => have := LM.out; omega
      intro v1 W' hn hb hg hat
      obtain ⟨A, c, rfl⟩ := Kd.N_slice hn
      have ne : ∀ q, h2 ≤ q → some q ≠ v8.ownBlock := fun q hq e => by have := (own8 q e.symm).2; omega
      have neg : some g ≠ v8.ownBlock := fun e => by have := (own8 g e.symm).1; omega
      refine hK' _ _ (hpost _ _ ⟨A1, c1, A2, c2, A30, c30, A33, c33, A, c, g10, ?_, ⟨KeepBut.trans (row := v8.ownBlock) ⟨hK0.1, fun q hq hq2 _ => hK0.2 q hq hq2 (by simp)⟩ (KeepBut.of_grown hg g) (.inl rfl), h.hI.grown hg neg, below_weaken h.hB (Nat.le_of_lt (Nat.lt_of_le_of_lt h.hI.ge hgw)) hb, fun e => Kd.N_step (h.h30 e) (fun q hq hl => hg.block q hl (ne q (by have := hq.1; omega))), fun _ => Kd.N_step hn33 (fun q hq hl => hg.block q hl (ne q hq.1)), fun _ => hn, fun e => ⟨(h.h10 e).1, blk_grown (h.h10 e).2 hg (ne _ (by have := (h.h10 e).1; have := H24.out; omega))⟩⟩⟩)
      show Act.put _ (some 34) _ = _
      simp only [a92, Act.put, List.setIfInBounds_toArray, List.set_cons_zero, List.set_cons_succ]
      rfl
    · -- 11
      have n6 : b 6 = true := hneed _ rfl 6 (by decide)
      have n10 : b 10 = true := hneed _ rfl 10 (by decide)
      have z13 : b 13 = false := by
        cases hz : b 13 with
        | false => rfl
        | true =>
          have hq := hcl 13 _ hz rfl 11 (by decide)
          rw [hbi] at hq
          cases hq
      have hpost : ∀ a' W', L92 w0 w W0 g g9 h2 s0_0 a1 a2 t350 t355 t377 t378 v8 t352 A20 c20 A21 c21 A22 c22 (b 0) (b 1) (b 2) (b 3) (b 4) (b 5) true (b 7) (b 8) (b 9) true true (b 12) false a' W' → (fun b a W => L92 w0 w W0 g g9 h2 s0_0 a1 a2 t350 t355 t377 t378 v8 t352 A20 c20 A21 c21 A22 c22 (b 0) (b 1) (b 2) (b 3) (b 4) (b 5) (b 6) (b 7) (b 8) (b 9) (b 10) (b 11) (b 12) (b 13) a W) (fun j => if j = 11 then true else b j) a' W' := fun a' W' hh => by
        show L92 w0 w W0 g g9 h2 s0_0 a1 a2 t350 t355 t377 t378 v8 t352 A20 c20 A21 c21 A22 c22 (b 0) (b 1) (b 2) (b 3) (b 4) (b 5) (b 6) (b 7) (b 8) (b 9) (b 10) true (b 12) (b 13) a' W'
        rw [n6, n10, z13]
        exact hh
      replace hI : L92 w0 w W0 g g9 h2 s0_0 a1 a2 t350 t355 t377 t378 v8 t352 A20 c20 A21 c21 A22 c22 (b 0) (b 1) (b 2) (b 3) (b 4) (b 5) (b 6) (b 7) (b 8) (b 9) (b 10) (b 11) (b 12) (b 13) a W := hI
      rw [hbi, n6, n10, z13] at hI
      obtain ⟨A1, c1, A2, c2, A30, c30, A33, c33, A34, c34, g10, rfl, h⟩ := hI
      have hgw := HGW.out
      have hh2 := HH2.out
      have h24 := H24.out
      refine wpOp_step rfl (fun K' hK' => ?_)
      refine event_step (W := W) (w1 := W) (v := .agg #[.int .i64 3, .int .i64 0, .int .i64 0, .int .i64 5, .int .i64 0, .slice A30 2 c30, .slice A34 (t352 ++ [(⟨1, 3, 0, ⟨8, 0, [⟨13, 3, []⟩, ⟨0, 1, []⟩]⟩, [], []⟩ : S36)]).length c34, .slice none 0 0]) (by rfl) ?_ ?_
      · (try simp only [a92, cond_true, cond_false])
        go_simp
        (try rfl)
      refine hK' _ _ (hpost _ _ ⟨A1, c1, A2, c2, A30, c30, A33, c33, A34, c34, g10, ?_, h⟩)
      show Act.put _ (some 35) _ = _
      simp only [a92, Act.put, List.setIfInBounds_toArray, List.set_cons_zero, List.set_cons_succ, i64_w, i32_w]
      rfl
    · -- 12
      have z13 : b 13 = false := by
        cases hz : b 13 with
        | false => rfl
        | true =>
          have hq := hcl 13 _ hz rfl 12 (by decide)
          rw [hbi] at hq
          cases hq
      have hpost : ∀ a' W', L92 w0 w W0 g g9 h2 s0_0 a1 a2 t350 t355 t377 t378 v8 t352 A20 c20 A21 c21 A22 c22 (b 0) (b 1) (b 2) (b 3) (b 4) (b 5) (b 6) (b 7) (b 8) (b 9) (b 10) (b 11) true false a' W' → (fun b a W => L92 w0 w W0 g g9 h2 s0_0 a1 a2 t350 t355 t377 t378 v8 t352 A20 c20 A21 c21 A22 c22 (b 0) (b 1) (b 2) (b 3) (b 4) (b 5) (b 6) (b 7) (b 8) (b 9) (b 10) (b 11) (b 12) (b 13) a W) (fun j => if j = 12 then true else b j) a' W' := fun a' W' hh => by
        show L92 w0 w W0 g g9 h2 s0_0 a1 a2 t350 t355 t377 t378 v8 t352 A20 c20 A21 c21 A22 c22 (b 0) (b 1) (b 2) (b 3) (b 4) (b 5) (b 6) (b 7) (b 8) (b 9) (b 10) (b 11) true (b 13) a' W'
        rw [z13]
        exact hh
      replace hI : L92 w0 w W0 g g9 h2 s0_0 a1 a2 t350 t355 t377 t378 v8 t352 A20 c20 A21 c21 A22 c22 (b 0) (b 1) (b 2) (b 3) (b 4) (b 5) (b 6) (b 7) (b 8) (b 9) (b 10) (b 11) (b 12) (b 13) a W := hI
      rw [hbi, z13] at hI
      obtain ⟨A1, c1, A2, c2, A30, c30, A33, c33, A34, c34, g10, rfl, h⟩ := hI
      have hgw := HGW.out
      have hh2 := HH2.out
      have h24 := H24.out
      refine wpOp_step rfl (fun K' hK' => ?_)
      refine box_step ?hg (N := 10) ?hd (cs := #[.int .i64 0, .int .i64 0, .int .i64 0, .int .i64 0, .int .i64 0, .slice none 0 0, .slice none 0 0, .slice none 0 0]) (t := 36) ?hr ?_
      case hd => rfl
      case hg => rfl
      case hr => (try simp only [a92, cond_true, cond_false]); first | (go_simp; done) | (go_simp; rfl)
      intro gb hgb W' hbox hb
      have hlt := h.hK.1
      have h' := h.ext hb
      refine hK' _ _ (hpost _ _ ⟨A1, c1, A2, c2, A30, c30, A33, c33, A34, c34, gb, ?_, ⟨h'.hK, h'.hI, h'.hB, fun e => Kd.N_mono (Kd.N_below (Kd.N_bound (h.h30 e)) hb) (fun q hq => ⟨hq.1.1, fun _ => by have := hq.2; omega⟩), fun e => Kd.N_mono (Kd.N_below (Kd.N_bound (h.h33 e)) hb) (fun q hq => ⟨hq.1.1, fun _ => by have := hq.2; omega⟩), fun e => Kd.N_mono (Kd.N_below (Kd.N_bound (h.h34 e)) hb) (fun q hq => ⟨hq.1.1, fun _ => by have := hq.2; omega⟩), fun _ => ⟨by omega, hbox⟩⟩⟩)
      show Act.put _ (some 10) _ = _
      simp only [a92, Act.put, List.setIfInBounds_toArray, List.set_cons_zero, List.set_cons_succ]
      rfl
    · -- 13
      have n0 : b 0 = true := hneed _ rfl 0 (by decide)
      have n1 : b 1 = true := hneed _ rfl 1 (by decide)
      have n2 : b 2 = true := hneed _ rfl 2 (by decide)
      have n3 : b 3 = true := hneed _ rfl 3 (by decide)
      have n4 : b 4 = true := hneed _ rfl 4 (by decide)
      have n5 : b 5 = true := hneed _ rfl 5 (by decide)
      have n6 : b 6 = true := hneed _ rfl 6 (by decide)
      have n7 : b 7 = true := hneed _ rfl 7 (by decide)
      have n8 : b 8 = true := hneed _ rfl 8 (by decide)
      have n9 : b 9 = true := hneed _ rfl 9 (by decide)
      have n10 : b 10 = true := hneed _ rfl 10 (by decide)
      have n11 : b 11 = true := hneed _ rfl 11 (by decide)
      have n12 : b 12 = true := hneed _ rfl 12 (by decide)
      have hpost : ∀ a' W', L92 w0 w W0 g g9 h2 s0_0 a1 a2 t350 t355 t377 t378 v8 t352 A20 c20 A21 c21 A22 c22 true true true true true true true true true true true true true true a' W' → (fun b a W => L92 w0 w W0 g g9 h2 s0_0 a1 a2 t350 t355 t377 t378 v8 t352 A20 c20 A21 c21 A22 c22 (b 0) (b 1) (b 2) (b 3) (b 4) (b 5) (b 6) (b 7) (b 8) (b 9) (b 10) (b 11) (b 12) (b 13) a W) (fun j => if j = 13 then true else b j) a' W' := fun a' W' hh => by
        show L92 w0 w W0 g g9 h2 s0_0 a1 a2 t350 t355 t377 t378 v8 t352 A20 c20 A21 c21 A22 c22 (b 0) (b 1) (b 2) (b 3) (b 4) (b 5) (b 6) (b 7) (b 8) (b 9) (b 10) (b 11) (b 12) true a' W'
        rw [n0, n1, n2, n3, n4, n5, n6, n7, n8, n9, n10, n11, n12]
        exact hh
      replace hI : L92 w0 w W0 g g9 h2 s0_0 a1 a2 t350 t355 t377 t378 v8 t352 A20 c20 A21 c21 A22 c22 (b 0) (b 1) (b 2) (b 3) (b 4) (b 5) (b 6) (b 7) (b 8) (b 9) (b 10) (b 11) (b 12) (b 13) a W := hI
      rw [hbi, n0, n1, n2, n3, n4, n5, n6, n7, n8, n9, n10, n11, n12] at hI
      obtain ⟨A1, c1, A2, c2, A30, c30, A33, c33, A34, c34, g10, rfl, h⟩ := hI
      have hgw := HGW.out
      have hh2 := HH2.out
      have h24 := H24.out
      refine wpOp_step rfl (fun K' hK' => ?_)
      obtain ⟨hg10, hbx⟩ := h.h10 rfl
      replace hbx : W.heap[g10]? = some (.cells #[.int .i64 0, .int .i64 0, .int .i64 0, .int .i64 0, .int .i64 0, .slice none 0 0, .slice none 0 0, .slice none 0 0] 36 (0, 0)) := hbx
      have hlt := h.hK.1
      have q0 : W.cell? ⟨g10, 0, none⟩ = some (.int .i64 0) := blk_cell hbx 0
      have f0 := blk_frozen hbx 0
      have q1 : W.cell? ⟨g10, 1, none⟩ = some (.int .i64 0) := blk_cell hbx 1
      have f1 := blk_frozen hbx 1
      have q2 : W.cell? ⟨g10, 2, none⟩ = some (.int .i64 0) := blk_cell hbx 2
      have f2 := blk_frozen hbx 2
      have q3 : W.cell? ⟨g10, 3, none⟩ = some (.int .i64 0) := blk_cell hbx 3
      have f3 := blk_frozen hbx 3
      have q4 : W.cell? ⟨g10, 4, none⟩ = some (.int .i64 0) := blk_cell hbx 4
      have f4 := blk_frozen hbx 4
      have q5 : W.cell? ⟨g10, 5, none⟩ = some (.slice none 0 0) := blk_cell hbx 5
      have f5 := blk_frozen hbx 5
      have q6 : W.cell? ⟨g10, 6, none⟩ = some (.slice none 0 0) := blk_cell hbx 6
      have f6 := blk_frozen hbx 6
      have q7 : W.cell? ⟨g10, 7, none⟩ = some (.slice none 0 0) := blk_cell hbx 7
      have f7 := blk_frozen hbx 7
      refine skip_ (w1 := ((((((((W.setCell ⟨g10, 0, none⟩ (.int .i64 3)).setCell ⟨g10, 1, none⟩ (.int .i64 0)).setCell ⟨g10, 2, none⟩ (.int .i64 0)).setCell ⟨g10, 3, none⟩ (.int .i64 5)).setCell ⟨g10, 4, none⟩ (.int .i64 0)).setCell ⟨g10, 5, none⟩ (.slice A30 2 c30)).setCell ⟨g10, 6, none⟩ (.slice A34 (t352 ++ [(⟨1, 3, 0, ⟨8, 0, [⟨13, 3, []⟩, ⟨0, 1, []⟩]⟩, [], []⟩ : S36)]).length c34)).setCell ⟨g10, 7, none⟩ (.slice none 0 0))) (by rfl) rfl ?_ ?_
      · (try simp only [a92, cond_true, cond_false])
        go_simp
        (try rfl)
      have ng : g ≠ g10 := by omega
      have hb0 : w0.heap.size ≤ g10 := Nat.le_trans h.hI.ge (by omega)
      refine hK' _ _ (hpost _ _ ⟨A1, c1, A2, c2, A30, c30, A33, c33, A34, c34, g10, rfl, ⟨(keep_far (p := ⟨g10, 7, none⟩) (keep_far (p := ⟨g10, 6, none⟩) (keep_far (p := ⟨g10, 5, none⟩) (keep_far (p := ⟨g10, 4, none⟩) (keep_far (p := ⟨g10, 3, none⟩) (keep_far (p := ⟨g10, 2, none⟩) (keep_far (p := ⟨g10, 1, none⟩) (keep_far (p := ⟨g10, 0, none⟩) h.hK hg10 (.int .i64 3)) hg10 (.int .i64 0)) hg10 (.int .i64 0)) hg10 (.int .i64 5)) hg10 (.int .i64 0)) hg10 (.slice A30 2 c30)) hg10 (.slice A34 (t352 ++ [(⟨1, 3, 0, ⟨8, 0, [⟨13, 3, []⟩, ⟨0, 1, []⟩]⟩, [], []⟩ : S36)]).length c34)) hg10 (.slice none 0 0)), (IsS61.far (p := ⟨g10, 7, none⟩) (IsS61.far (p := ⟨g10, 6, none⟩) (IsS61.far (p := ⟨g10, 5, none⟩) (IsS61.far (p := ⟨g10, 4, none⟩) (IsS61.far (p := ⟨g10, 3, none⟩) (IsS61.far (p := ⟨g10, 2, none⟩) (IsS61.far (p := ⟨g10, 1, none⟩) (IsS61.far (p := ⟨g10, 0, none⟩) h.hI ng (.int .i64 3)) ng (.int .i64 0)) ng (.int .i64 0)) ng (.int .i64 5)) ng (.int .i64 0)) ng (.slice A30 2 c30)) ng (.slice A34 (t352 ++ [(⟨1, 3, 0, ⟨8, 0, [⟨13, 3, []⟩, ⟨0, 1, []⟩]⟩, [], []⟩ : S36)]).length c34)) ng (.slice none 0 0)), (below_set (j := 7) (v := (.slice none 0 0)) (below_set (j := 6) (v := (.slice A34 (t352 ++ [(⟨1, 3, 0, ⟨8, 0, [⟨13, 3, []⟩, ⟨0, 1, []⟩]⟩, [], []⟩ : S36)]).length c34)) (below_set (j := 5) (v := (.slice A30 2 c30)) (below_set (j := 4) (v := (.int .i64 0)) (below_set (j := 3) (v := (.int .i64 5)) (below_set (j := 2) (v := (.int .i64 0)) (below_set (j := 1) (v := (.int .i64 0)) (below_set (j := 0) (v := (.int .i64 3)) h.hB hb0) hb0) hb0) hb0) hb0) hb0) hb0) hb0), fun e => (Kd.N_far (p := ⟨g10, 7, none⟩) (Kd.N_far (p := ⟨g10, 6, none⟩) (Kd.N_far (p := ⟨g10, 5, none⟩) (Kd.N_far (p := ⟨g10, 4, none⟩) (Kd.N_far (p := ⟨g10, 3, none⟩) (Kd.N_far (p := ⟨g10, 2, none⟩) (Kd.N_far (p := ⟨g10, 1, none⟩) (Kd.N_far (p := ⟨g10, 0, none⟩) (h.h30 rfl) (fun q hq => hq.2 rfl) (.int .i64 3)) (fun q hq => hq.2 rfl) (.int .i64 0)) (fun q hq => hq.2 rfl) (.int .i64 0)) (fun q hq => hq.2 rfl) (.int .i64 5)) (fun q hq => hq.2 rfl) (.int .i64 0)) (fun q hq => hq.2 rfl) (.slice A30 2 c30)) (fun q hq => hq.2 rfl) (.slice A34 (t352 ++ [(⟨1, 3, 0, ⟨8, 0, [⟨13, 3, []⟩, ⟨0, 1, []⟩]⟩, [], []⟩ : S36)]).length c34)) (fun q hq => hq.2 rfl) (.slice none 0 0)), fun e => (Kd.N_far (p := ⟨g10, 7, none⟩) (Kd.N_far (p := ⟨g10, 6, none⟩) (Kd.N_far (p := ⟨g10, 5, none⟩) (Kd.N_far (p := ⟨g10, 4, none⟩) (Kd.N_far (p := ⟨g10, 3, none⟩) (Kd.N_far (p := ⟨g10, 2, none⟩) (Kd.N_far (p := ⟨g10, 1, none⟩) (Kd.N_far (p := ⟨g10, 0, none⟩) (h.h33 rfl) (fun q hq => hq.2 rfl) (.int .i64 3)) (fun q hq => hq.2 rfl) (.int .i64 0)) (fun q hq => hq.2 rfl) (.int .i64 0)) (fun q hq => hq.2 rfl) (.int .i64 5)) (fun q hq => hq.2 rfl) (.int .i64 0)) (fun q hq => hq.2 rfl) (.slice A30 2 c30)) (fun q hq => hq.2 rfl) (.slice A34 (t352 ++ [(⟨1, 3, 0, ⟨8, 0, [⟨13, 3, []⟩, ⟨0, 1, []⟩]⟩, [], []⟩ : S36)]).length c34)) (fun q hq => hq.2 rfl) (.slice none 0 0)), fun e => (Kd.N_far (p := ⟨g10, 7, none⟩) (Kd.N_far (p := ⟨g10, 6, none⟩) (Kd.N_far (p := ⟨g10, 5, none⟩) (Kd.N_far (p := ⟨g10, 4, none⟩) (Kd.N_far (p := ⟨g10, 3, none⟩) (Kd.N_far (p := ⟨g10, 2, none⟩) (Kd.N_far (p := ⟨g10, 1, none⟩) (Kd.N_far (p := ⟨g10, 0, none⟩) (h.h34 rfl) (fun q hq => hq.2 rfl) (.int .i64 3)) (fun q hq => hq.2 rfl) (.int .i64 0)) (fun q hq => hq.2 rfl) (.int .i64 0)) (fun q hq => hq.2 rfl) (.int .i64 5)) (fun q hq => hq.2 rfl) (.int .i64 0)) (fun q hq => hq.2 rfl) (.slice A30 2 c30)) (fun q hq => hq.2 rfl) (.slice A34 (t352 ++ [(⟨1, 3, 0, ⟨8, 0, [⟨13, 3, []⟩, ⟨0, 1, []⟩]⟩, [], []⟩ : S36)]).length c34)) (fun q hq => hq.2 rfl) (.slice none 0 0)), fun _ => ⟨hg10, (blk_put (cs' := #[(.int .i64 3), (.int .i64 0), (.int .i64 0), (.int .i64 5), (.int .i64 0), (.slice A30 2 c30), (.slice A34 (t352 ++ [(⟨1, 3, 0, ⟨8, 0, [⟨13, 3, []⟩, ⟨0, 1, []⟩]⟩, [], []⟩ : S36)]).length c34), (.slice none 0 0)]) (blk_put (cs' := #[(.int .i64 3), (.int .i64 0), (.int .i64 0), (.int .i64 5), (.int .i64 0), (.slice A30 2 c30), (.slice A34 (t352 ++ [(⟨1, 3, 0, ⟨8, 0, [⟨13, 3, []⟩, ⟨0, 1, []⟩]⟩, [], []⟩ : S36)]).length c34), (.slice none 0 0)]) (blk_put (cs' := #[(.int .i64 3), (.int .i64 0), (.int .i64 0), (.int .i64 5), (.int .i64 0), (.slice A30 2 c30), (.slice none 0 0), (.slice none 0 0)]) (blk_put (cs' := #[(.int .i64 3), (.int .i64 0), (.int .i64 0), (.int .i64 5), (.int .i64 0), (.slice none 0 0), (.slice none 0 0), (.slice none 0 0)]) (blk_put (cs' := #[(.int .i64 3), (.int .i64 0), (.int .i64 0), (.int .i64 5), (.int .i64 0), (.slice none 0 0), (.slice none 0 0), (.slice none 0 0)]) (blk_put (cs' := #[(.int .i64 3), (.int .i64 0), (.int .i64 0), (.int .i64 0), (.int .i64 0), (.slice none 0 0), (.slice none 0 0), (.slice none 0 0)]) (blk_put (cs' := #[(.int .i64 3), (.int .i64 0), (.int .i64 0), (.int .i64 0), (.int .i64 0), (.slice none 0 0), (.slice none 0 0), (.slice none 0 0)]) (blk_put (cs' := #[(.int .i64 3), (.int .i64 0), (.int .i64 0), (.int .i64 0), (.int .i64 0), (.slice none 0 0), (.slice none 0 0), (.slice none 0 0)]) hbx 0 (.int .i64 3) rfl) 1 (.int .i64 0) rfl) 2 (.int .i64 0) rfl) 3 (.int .i64 5) rfl) 4 (.int .i64 0) rfl) 5 (.slice A30 2 c30) rfl) 6 (.slice A34 (t352 ++ [(⟨1, 3, 0, ⟨8, 0, [⟨13, 3, []⟩, ⟨0, 1, []⟩]⟩, [], []⟩ : S36)]).length c34) rfl) 7 (.slice none 0 0) rfl)⟩⟩⟩)
  case hdone =>
    intro b a W hall hI
    replace hI : L92 w0 w W0 g g9 h2 s0_0 a1 a2 t350 t355 t377 t378 v8 t352 A20 c20 A21 c21 A22 c22 (b 0) (b 1) (b 2) (b 3) (b 4) (b 5) (b 6) (b 7) (b 8) (b 9) (b 10) (b 11) (b 12) (b 13) a W := hI
    rw [hall 0 (by decide), hall 1 (by decide), hall 2 (by decide), hall 3 (by decide), hall 4 (by decide), hall 5 (by decide), hall 6 (by decide), hall 7 (by decide), hall 8 (by decide), hall 9 (by decide), hall 10 (by decide), hall 11 (by decide), hall 12 (by decide), hall 13 (by decide)] at hI
    obtain ⟨A1, c1, A2, c2, A30, c30, A33, c33, A34, c34, g10, rfl, h⟩ := hI
    simp only [a92, cond_true]
    try go_wp2
    have own8 : ∀ q, v8.ownBlock = some q → w.heap.size ≤ q := fun q hq => (H8.out.1 q hq).1
    have hh2 := HH2.out
    have h24 := H24.out
    have HKW : Aside0 (KeepBut w W g none) := ⟨KeepBut.trans HK'.out h.hK (by cases hv : v8.ownBlock with | none => exact .inl rfl | some q => exact .inr ⟨q, rfl, own8 q hv⟩)⟩
    have HN30 := Aside0.mk (Kd.N_mono (h.h30 rfl) (ok' := fun q => w.heap.size ≤ q) (fun q hq => by have := hq.1; omega))
    have HN34 := Aside0.mk (Kd.N_mono (h.h34 rfl) (ok' := fun q => w.heap.size ≤ q) (fun q hq => hq.1))
    have h10' := Aside0.mk (show W.heap[g10]? = some (.cells #[.int .i64 3, .int .i64 0, .int .i64 0, .int .i64 5, .int .i64 0, .slice A30 2 c30, .slice A34 (t352 ++ [(⟨1, 3, 0, ⟨8, 0, [⟨13, 3, []⟩, ⟨0, 1, []⟩]⟩, [], []⟩ : S36)]).length c34, .slice none 0 0] 36 (0, 0)) from (h.h10 rfl).2)
    have HIW := Aside0.mk (show IsS61 w0 W g s0_0 t378 from h.hI)
    have HBW := Aside0.mk h.hB
    clear h hall own8 hh2 h24 HI' HB' HK' H24 HH2 H8
    refine start_ (n := 6) (S := fun w' => w'.cell? ⟨g10, 0, none⟩ = some (.int .i64 3) ∧ w'.cell? ⟨g10, 1, none⟩ = some (.int .i64 0) ∧ w'.cell? ⟨g10, 2, none⟩ = some (.int .i64 0) ∧ w'.cell? ⟨g10, 3, none⟩ = some (.int .i64 5) ∧ w'.cell? ⟨g10, 4, none⟩ = some (.int .i64 0) ∧ w'.cell? ⟨g10, 5, none⟩ = some (.slice A30 2 c30) ∧ w'.cell? ⟨g10, 6, none⟩ = some (.slice A34 (t352 ++ [(⟨1, 3, 0, ⟨8, 0, [⟨13, 3, []⟩, ⟨0, 1, []⟩]⟩, [], []⟩ : S36)]).length c34) ∧ w'.cell? ⟨g10, 7, none⟩ = some (.slice none 0 0)) (ds := []) #[false, false, false, false, false, false] (by kernel_rfl) rfl rfl ⟨(blk_cell h10'.out 0).trans rfl, (blk_cell h10'.out 1).trans rfl, (blk_cell h10'.out 2).trans rfl, (blk_cell h10'.out 3).trans rfl, (blk_cell h10'.out 4).trans rfl, (blk_cell h10'.out 5).trans rfl, (blk_cell h10'.out 6).trans rfl, (blk_cell h10'.out 7).trans rfl⟩ (fun hHeld => ?_)
    have n1_ := Aside0.mk (keep_drew HKW.out)
    have n2_ := Aside0.mk (Kd.N_drew HN30.out)
    have n3_ := Aside0.mk (Kd.N_drew HN34.out)
    have n4_ := Aside0.mk (blk_drew h10'.out)
    have n5_ := Aside0.mk (IsS61.drew HIW.out)
    have n6_ := Aside0.mk (below_drew1 HBW.out)
    clear HKW HN30 HN34 h10' HIW HBW
    have HKW := n1_
    have HN30 := n2_
    have HN34 := n3_
    have h10' := n4_
    have HIW := n5_
    have HBW := n6_
    clear n1_ n2_ n3_ n4_ n5_ n6_
    generalize W.drew = W1 at HKW HN30 HN34 h10' HIW HBW hHeld ⊢
    refine pure_ (i := 0) (N := some 36) (v := ?_) (a' := ?_) #[true, false, false, false, false, false] rfl rfl (by kernel_rfl) (fun _ _ _ h => h) (Or.inl ⟨by rfl, ?_⟩) ?_ ?_
    rotate_left
    · intro w'
      go_simp
      with_reducible rfl
    rotate_left
    · simp only [Act.put, List.setIfInBounds_toArray, List.set_cons_zero, List.set_cons_succ, i64_w, i32_w]
      rfl
    refine take_ (i := 3) (N := some 39) (v := ?_) (a' := ?_) #[true, false, false, true, false, false] rfl rfl (by kernel_rfl) (fun _ _ _ h => h) (Or.inl ⟨by rfl, ?_⟩) hHeld ?_ ?_
    rotate_left
    · rintro w' ⟨s0, s1, s2, s3, s4, s5, s6, s7⟩
      go_simp
      with_reducible rfl
    rotate_left
    · simp only [Act.put, List.setIfInBounds_toArray, List.set_cons_zero, List.set_cons_succ, i64_w, i32_w]
      rfl
    refine one_ (i := 1) (N := some 37) #[true, true, false, true, false, false] rfl rfl (by kernel_rfl) (by decide) (fun K hK => ?_)
    refine goes_ Try.func50 (by kernel_rfl) rfl #[.int .i64 0, .int .i64 0] (by rfl) rfl rfl (by (try simp only [List.map_toArray, List.map_cons, List.map_nil]); first | done | rfl) ?_
    refine (leaf_lit 0 0 _).mono ?_
    rintro e W2 ⟨AL, cL, rfl, hb⟩
    refine ⟨_, rfl, ?_⟩
    have n1_ := Aside0.mk (KeepBut.trans HKW.out (KeepBut.of_below hb g none) (.inl rfl))
    have n2_ := Aside0.mk (Kd.N_below HN30.out hb)
    have n3_ := Aside0.mk (Kd.N_below HN34.out hb)
    have n4_ := Aside0.mk (blk_below h10'.out hb)
    have n5_ := Aside0.mk (HIW.out.below hb)
    have n6_ := Aside0.mk (below_step HBW.out hb)
    clear HKW HN30 HN34 h10' HIW HBW
    have HKW := n1_
    have HN30 := n2_
    have HN34 := n3_
    have h10' := n4_
    have HIW := n5_
    have HBW := n6_
    clear n1_ n2_ n3_ n4_ n5_ n6_ hb
    refine hK.out _ _ ⟨(blk_cell h10'.out 0).trans rfl, (blk_cell h10'.out 1).trans rfl, (blk_cell h10'.out 2).trans rfl, (blk_cell h10'.out 3).trans rfl, (blk_cell h10'.out 4).trans rfl, (blk_cell h10'.out 5).trans rfl, (blk_cell h10'.out 6).trans rfl, (blk_cell h10'.out 7).trans rfl⟩ (fun hHeld => ?_)
    clear hK K
    refine norm_ (a' := ?_) ?_ ?_
    rotate_left
    · show Act.put _ (some 37) _ = _
      simp only [Act.put, List.setIfInBounds_toArray, List.set_cons_zero, List.set_cons_succ, i64_w, i32_w]
      rfl
    refine pure_ (i := 2) (N := some 38) (v := ?_) (a' := ?_) #[true, true, true, true, false, false] rfl rfl (by kernel_rfl) (fun _ _ _ h => h) (Or.inl ⟨by rfl, ?_⟩) ?_ ?_
    rotate_left
    · intro w'
      go_simp
      with_reducible rfl
    rotate_left
    · simp only [Act.put, List.setIfInBounds_toArray, List.set_cons_zero, List.set_cons_succ, i64_w, i32_w]
      rfl
    refine one_ (i := 4) (N := some 40) #[true, true, true, true, true, false] rfl rfl (by kernel_rfl) (by decide) (fun K hK => ?_)
    have hkw := HKW.out.1
    refine Kd.N_lit_step k36 W2.heap.size 36 ?hg (N' := 40) ?hd (w0 := W2) (xs := [(⟨1, 3, 0, ⟨0, 0, []⟩, [], []⟩ : S36), (⟨3, 0, 0, ⟨5, 0, [⟨13, 3, []⟩, ⟨0, wrap64 (1 + t377), []⟩]⟩, t352 ++ [⟨1, 3, 0, ⟨8, 0, [⟨13, 3, []⟩, ⟨0, 1, []⟩]⟩, [], []⟩], []⟩ : S36)]) (inner := [.int .i64 1, .int .i64 3, .int .i64 0, .int .i64 0, .int .i64 0, .slice AL 0 cL, .slice none 0 0, .slice none 0 0, .int .i64 3, .int .i64 0, .int .i64 0, .int .i64 5, .int .i64 0, .slice A30 2 c30, .slice A34 (t352 ++ [(⟨1, 3, 0, ⟨8, 0, [⟨13, 3, []⟩, ⟨0, 1, []⟩]⟩, [], []⟩ : S36)]).length c34, .slice none 0 0]) (ok := fun q => w.heap.size ≤ q) (okp := fun q => w.heap.size ≤ q) ?hr ?hp (fun _ hq => hq) ?hf (Below.refl _ _) (Nat.le_refl _) (by simp) ?_
    case hd => rfl
    case hg => rfl
    case hr => first | (go_simp; done) | (go_simp; rfl)
    case hf => exact hkw
    case hp => exact Reps.c8 (show Kd.FK k36 _ _ (⟨1, 3, 0, ⟨0, 0, []⟩, [], []⟩ : S36) [.int .i64 1, .int .i64 3, .int .i64 0, .int .i64 0, .int .i64 0, .slice AL 0 cL, .slice none 0 0, .slice none 0 0] from k36_mkF _ _ (⟨1, 3, 0, ⟨0, 0, []⟩, [], []⟩ : S36) (Nat.zero_le _) (empty_F k34 _ _ AL) (Nat.le_refl _) (Kd.F_nil _ _ _) (Nat.le_refl _) (Kd.F_nil _ _ _)) (Reps.c8 (show Kd.FK k36 _ _ (⟨3, 0, 0, ⟨5, 0, [⟨13, 3, []⟩, ⟨0, wrap64 (1 + t377), []⟩]⟩, t352 ++ [⟨1, 3, 0, ⟨8, 0, [⟨13, 3, []⟩, ⟨0, 1, []⟩]⟩, [], []⟩], []⟩ : S36) [.int .i64 3, .int .i64 0, .int .i64 0, .int .i64 5, .int .i64 0, .slice A30 2 c30, .slice A34 (t352 ++ [(⟨1, 3, 0, ⟨8, 0, [⟨13, 3, []⟩, ⟨0, 1, []⟩]⟩, [], []⟩ : S36)]).length c34, .slice none 0 0] from k36_mkF _ _ (⟨3, 0, 0, ⟨5, 0, [⟨13, 3, []⟩, ⟨0, wrap64 (1 + t377), []⟩]⟩, t352 ++ [⟨1, 3, 0, ⟨8, 0, [⟨13, 3, []⟩, ⟨0, 1, []⟩]⟩, [], []⟩], []⟩ : S36) (Kd.N_reads' HN30.out).2.1 (Kd.N_F HN30.out) (Kd.N_reads' HN34.out).2.1 (Kd.N_F HN34.out) (Nat.le_refl _) (Kd.F_nil _ _ _)) (Reps.none _ _))
    intro v1 W3 hn hb _ _
    have n1_ := Aside0.mk (KeepBut.trans HKW.out (KeepBut.of_below hb g none) (.inl rfl))
    have n4_ := Aside0.mk (blk_below h10'.out hb)
    have n5_ := Aside0.mk (HIW.out.below hb)
    have n6_ := Aside0.mk (below_step HBW.out hb)
    have n7_ := Aside0.mk (Kd.N_lower hn hkw)
    clear HKW HN30 HN34 h10' HIW HBW hb hn
    have h10' := n4_
    refine hK.out _ _ ⟨(blk_cell h10'.out 0).trans rfl, (blk_cell h10'.out 1).trans rfl, (blk_cell h10'.out 2).trans rfl, (blk_cell h10'.out 3).trans rfl, (blk_cell h10'.out 4).trans rfl, (blk_cell h10'.out 5).trans rfl, (blk_cell h10'.out 6).trans rfl, (blk_cell h10'.out 7).trans rfl⟩ (fun hHeld => ?_)
    clear hK K
    refine norm_ (a' := ?_) ?_ ?_
    rotate_left
    · show Act.put _ (some 40) _ = _
      simp only [Act.put, List.setIfInBounds_toArray, List.set_cons_zero, List.set_cons_succ, i64_w, i32_w]
      rfl
    refine pure_ (i := 5) (N := some 6) (v := ?_) (a' := ?_) #[true, true, true, true, true, true] rfl rfl (by kernel_rfl) (fun _ _ _ h => h) (Or.inl ⟨by rfl, ?_⟩) ?_ ?_
    rotate_left
    · intro w'
      go_simp
      with_reducible rfl
    rotate_left
    · simp only [Act.put, List.setIfInBounds_toArray, List.set_cons_zero, List.set_cons_succ, i64_w, i32_w]
      rfl
    refine done_ (by kernel_rfl) ?_
    try go_wp2
    go_ret
    exact ⟨_, rfl, HR.out ▸ n7_.out, n5_.out, n6_.out, n1_.out⟩


end Go.Proofs.Ytpifdlpieglhlaa.PA

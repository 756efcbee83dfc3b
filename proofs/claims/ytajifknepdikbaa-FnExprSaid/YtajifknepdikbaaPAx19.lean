-- made by a program of this session (wip/myprint.py over the kit's print)
import Derived.Test.YtajifknepdikbaaV
import Derived.Test.YtajifknepdikbaaPAx0
import Derived.Test.YtajifknepdikbaaPAx1
import Derived.Test.YtajifknepdikbaaPAx10
import Derived.Test.YtajifknepdikbaaPAx13
import Derived.Test.YtajifknepdikbaaPAx17
import Derived.Test.YtajifknepdikbaaPAx18
namespace Go.Proofs.Ytajifknepdikbaa.PA
open Go.RowKit Go.Proofs.YtajifknepdikbaaW.PrintWords Go.Proofs.YtajifknepdikbaaW.PrintLast Go.Proofs.YtajifknepdikbaaW.PrintMore
attribute [local go_sem] max2_int min2_int max_two min_two max_three min_three max_four min_four   -- for this text's walks alone
set_option linter.unusedVariables false
set_option linter.unusedSimpArgs false

/-! ### laws_FnExpr: function 3 -/
theorem any_inv {P : Program} {ops : Array Oper} {Q : Exit → Act → World → Prop} {n : Nat} {T : Bool × List (List Nat × List Nat)} (hn : ops.size = n) (hT : rtab .any ops = T)
    (hac : (List.range n).all (fun i => match T.2[i]? with | some r => r.1.all (fun j => decide (j < i)) | none => false) = true)
    (I : (Nat → Bool) → Act → World → Prop)
    (hstep : ∀ (i : Nat) (b : Nat → Bool) (a : Act) (w : World), i < n → b i = false → (∀ r, T.2[i]? = some r → ∀ j ∈ r.1, b j = true) → (∀ j r, b j = true → T.2[j]? = some r → ∀ q ∈ r.1, b q = true) → I b a w → wpOp P ops Q i (fun a' w' => I (fun j => if j = i then true else b j) a' w') a w)
    (hdone : ∀ (b : Nat → Bool) (a : Act) (w : World), (∀ j, j < n → b j = true) → I b a w → Q .normal a w)
    (a : Act) (w : World) (h0 : I (fun _ => false) a w) : wpAny P .any ops Q n (Array.replicate n false) a w := by
  have key : ∀ (fuel : Nat) (l : Array Bool) (a : Act) (w : World), l.size = n → ((List.range n).countP (fun j => !l.getD j false)) ≤ fuel →
      (∀ j r, l.getD j false = true → T.2[j]? = some r → ∀ q ∈ r.1, l.getD q false = true) → I (fun j => l.getD j false) a w → wpAny P .any ops Q fuel l a w := by
    have all_of : ∀ l : Array Bool, l.size = n → Region.ready .any ops l = [] → ∀ j, j < n → l.getD j false = true := by
      intro l hl hr j
      induction j using Nat.strongRecOn with
      | _ j ih =>
      intro hj
      cases hb : l.getD j false with
      | true => rfl
      | false =>
        have hm : j ∈ Region.ready .any ops l := by
          rw [ready_eq, hT]
          unfold readyT
          have hlen : T.2.length = n := by rw [← hT, rtab_length, hn]
          rw [List.mem_filter, List.mem_range, hlen]
          refine ⟨hj, ?_⟩
          unfold readyAt
          have e1 : l.toList.getD j true = false := by
            rw [← gd]
            have hlt : j < l.size := by omega
            simp only [Array.getD_eq_getD_getElem?, Array.getElem?_eq_getElem hlt, Option.getD_some] at hb ⊢
            exact hb
          rw [e1]
          have h1 := List.all_eq_true.1 hac j (List.mem_range.2 hj)
          cases hq : T.2[j]? with
          | none => rw [hq] at h1; cases h1
          | some r =>
            rw [hq] at h1
            simp only [List.all_eq_true, decide_eq_true_eq] at h1
            simp only [Bool.not_false, Bool.true_and, List.all_eq_true]
            intro q hqm
            rw [← gd]
            exact ih q (h1 q hqm) (by have := h1 q hqm; omega)
        rw [hr] at hm
        cases hm
    intro fuel
    induction fuel with
    | zero =>
      intro l a w hl hc hcl hI
      have hall : ∀ j, j < n → l.getD j false = true := by
        intro j hj
        have := List.countP_eq_zero.1 (Nat.le_zero.1 hc) j (List.mem_range.2 hj)
        simpa using this
      refine ⟨?_, hdone _ a w hall hI⟩
      cases hr : Region.ready .any ops l with
      | nil => rfl
      | cons i rs =>
        have hm : i ∈ Region.ready .any ops l := by rw [hr]; exact List.mem_cons_self
        obtain ⟨h1, o, h2, _⟩ := mem_ready.1 hm
        have hi : i < l.size := by rw [hl, ← hn]; exact (Array.getElem?_eq_some_iff.1 h2).1
        have := hall i (by omega)
        simp only [Array.getD_eq_getD_getElem?, Array.getElem?_eq_getElem hi, Option.getD_some] at h1 this
        rw [h1] at this
        cases this
    | succ fuel ih =>
      intro l a w hl hc hcl hI
      refine ⟨fun hr => hdone _ a w (all_of l hl hr) hI, fun i hm => ?_⟩
      obtain ⟨h1, o, h2, h3⟩ := mem_ready.1 hm
      have hi : i < n := by rw [← hn]; exact (Array.getElem?_eq_some_iff.1 h2).1
      have hil : i < l.size := by omega
      have hbi : l.getD i false = false := by
        simp only [Array.getD_eq_getD_getElem?, Array.getElem?_eq_getElem hil, Option.getD_some] at h1 ⊢
        exact h1
      have hneed : ∀ r, T.2[i]? = some r → ∀ j ∈ r.1, l.getD j false = true := by
        intro r hr j hj
        rw [ready_eq, hT] at hm
        unfold readyT at hm
        have := (List.mem_filter.1 hm).2
        unfold readyAt at this
        rw [hr, Bool.and_eq_true] at this
        have h5 := List.all_eq_true.1 this.2 j hj
        rw [← gd] at h5
        exact h5
      have hf : ∀ j, (l.setIfInBounds i true).getD j false = if j = i then true else l.getD j false := by
        intro j
        by_cases hji : j = i
        · subst hji
          rw [if_pos rfl]
          simp [Array.getD_eq_getD_getElem?, hil]
        · rw [if_neg hji]
          simp [Array.getD_eq_getD_getElem?, Array.getElem?_setIfInBounds, Ne.symm hji]
      refine wpOp_mono (fun a' w' h' => ih _ a' w' (by rw [Array.size_setIfInBounds]; exact hl) ?_ ?_ ?_) (hstep i (fun j => l.getD j false) a w hi hbi hneed hcl hI)
      · have hlt : (List.range n).countP (fun j => !(l.setIfInBounds i true).getD j false) < (List.range n).countP (fun j => !l.getD j false) := by
          rw [List.countP_eq_length_filter, List.countP_eq_length_filter]
          have hsub : ((List.range n).filter (fun j => !(l.setIfInBounds i true).getD j false)) = (((List.range n).filter (fun j => !l.getD j false)).filter (fun j => !(j == i))) := by
            rw [List.filter_filter]
            refine List.filter_congr (fun j _ => ?_)
            rw [hf j]
            by_cases hji : j = i
            · subst hji
              simp
            · rw [if_neg hji]
              simp [hji]
          rw [hsub]
          have hmem : i ∈ (List.range n).filter (fun j => !l.getD j false) := List.mem_filter.2 ⟨List.mem_range.2 hi, by rw [hbi]; rfl⟩
          exact List.length_filter_lt_length_iff_exists.2 ⟨i, hmem, by simp⟩
        omega
      · intro j r hj hr q hq
        rw [hf] at hj ⊢
        by_cases hji : j = i
        · subst hji
          split
          · rfl
          · exact hneed r hr q hq
        · rw [if_neg hji] at hj
          split
          · rfl
          · exact hcl j r hj hr q hq
      · have : (fun j => (l.setIfInBounds i true).getD j false) = fun j => if j = i then true else l.getD j false := funext hf
        rw [this]
        exact h'
  have hz : ∀ j, (Array.replicate n false).getD j false = false := by
    intro j
    simp only [Array.getD_eq_getD_getElem?, Array.getElem?_replicate]
    split <;> rfl
  refine key n _ a w (by simp) ?_ ?_ ?_
  · exact Nat.le_trans List.countP_le_length (by rw [List.length_range]; exact Nat.le_refl _)
  · intro j r hj
    rw [hz] at hj
    cases hj
  · have : (fun j => (Array.replicate n false).getD j false) = fun _ => false := funext hz
    rw [this]
    exact h0
theorem empty_V {α : Type} (d : Kd α) (e : Nat) (w : World) (base : Nat) (A : Option Addr) (c : Nat) : Kd.V d e w base (fun _ => False) (.slice A ([] : List α).length c) [] :=
  ⟨A, c, rfl, Nat.zero_le _, fun W' _ => ⟨rfl, by simp, fun h => absurd h (Nat.lt_irrefl 0)⟩⟩
theorem empty_F {α : Type} (d : Kd α) (w : World) (ok : Nat → Prop) (A : Option Addr) : Kd.F d w ok A ([] : List α).length [] := fun W' _ => ⟨rfl, by simp, fun h => absurd h (Nat.lt_irrefl 0)⟩
theorem number_lit (a : Int) (w : World) : Calls Try.prog 17 #[.int .i64 a] w fun e w' => ∃ A c, e = .returned (.agg #[.int .i64 0, .int .i64 a, .slice A 0 c]) ∧ Below w.heap.size w w' := by
  refine (laws_number.calls a 0 a [] w rfl).mono ?_
  rintro e w' ⟨v, rfl, hr, hb⟩
  obtain ⟨A, c, rfl⟩ := Kd.N_slice (Kd.R_N hr)
  exact ⟨A, c, rfl, hb⟩
structure FX (W0 : World) (op n : Int) (l : List S25) (A30 : Option Addr) (c30 : Nat) (A33 : Option Addr) (c33 : Nat) (A35 : Option Addr) (c35 : Nat) (A36 : Option Addr) (c36 : Nat) (g6 : Nat) (b4 b7 b9 b10 b12 b13 : Bool) (W : World) : Prop where
  hB : Below W0.heap.size W0 W
  h30 : b4 = true → b7 = false → Kd.N k25 25 W W0.heap.size (fun k => b12 = true → k ≠ g6) (.slice A30 0 c30) []
  h33 : b7 = true → b10 = false → Kd.N k25 25 W W0.heap.size (fun k => b12 = true → k ≠ g6) (.slice A33 l.length c33) l
  h35 : b9 = true → b10 = false → Kd.N k25 25 W W0.heap.size (fun k => (b12 = true → k ≠ g6) ∧ some k ≠ (.slice A33 l.length c33 : Value).ownBlock) (.slice A35 1 c35) [(⟨0, 1, []⟩ : S25)]
  h36 : b10 = true → Kd.N k25 25 W W0.heap.size (fun k => b12 = true → k ≠ g6) (.slice A36 (l ++ [(⟨0, 1, []⟩ : S25)]).length c36) (l ++ [(⟨0, 1, []⟩ : S25)])
  h6 : b12 = true → W0.heap.size ≤ g6 ∧ W.heap[g6]? = some (.cells (cond b13 #[.int .i64 op, .int .i64 n, .slice A36 (l ++ [(⟨0, 1, []⟩ : S25)]).length c36] #[.int .i64 0, .int .i64 0, .slice none 0 0]) 25 (0, 0))
theorem FX.ext {W0 : World} {op n : Int} {l : List S25} {A30 : Option Addr} {c30 : Nat} {A33 : Option Addr} {c33 : Nat} {A35 : Option Addr} {c35 : Nat} {A36 : Option Addr} {c36 : Nat} {g6 : Nat} {b4 b7 b9 b10 b12 b13 : Bool} {W W' : World} (h : FX W0 op n l A30 c30 A33 c33 A35 c35 A36 c36 g6 b4 b7 b9 b10 b12 b13 W) (hb : Below W.heap.size W W') : FX W0 op n l A30 c30 A33 c33 A35 c35 A36 c36 g6 b4 b7 b9 b10 b12 b13 W' :=
  ⟨below_step h.hB hb, fun e f => Kd.N_below (h.h30 e f) hb, fun e f => Kd.N_below (h.h33 e f) hb, fun e f => Kd.N_below (h.h35 e f) hb, fun e => Kd.N_below (h.h36 e) hb, fun e => ⟨(h.h6 e).1, blk_below (h.h6 e).2 hb⟩⟩
def aX (g3 : Nat) (A0 : Option Addr) (c0 : Nat) (l0 : List Int) (op n : Int) (A : Option Addr) (c : Nat) (l : List S25) (A30 : Option Addr) (c30 : Nat) (A33 : Option Addr) (c33 : Nat) (A34 : Option Addr) (c34 : Nat) (A35 : Option Addr) (c35 : Nat) (A36 : Option Addr) (c36 : Nat) (g6 : Nat) (b0 b1 b2 b3 b4 b5 b6 b7 b8 b9 b10 b11 b12 b13 : Bool) : Act :=
  { tmps := #[(.slice A0 l0.length c0), undef, (.bool false), (.pointer (some ⟨g3, 0, none⟩)), (.bool true), (.bool true), cond b12 (.pointer (some ⟨g6, 0, none⟩)) undef, (.slice A0 l0.length c0), (.int .i64 (l0.length : Int)), (.bool false), (.slice A0 l0.length c0), (.agg #[.int .i64 op, .int .i64 n, .slice A l.length c]), (.agg #[.int .i64 op, .int .i64 n, .slice A l.length c]), (.bool true), (.agg #[.int .i64 op, .int .i64 n, .slice A l.length c]), (.bool true), (.bool true), (.bool true), (.bool false), (.bool false), (.bool true), (.bool false), (.bool false), undef, undef, undef, cond b0 (.pointer (some ⟨g3, 0, none⟩)) undef, cond b1 (.int .i64 op) undef, cond b2 (.pointer (some ⟨g3, 1, none⟩)) undef, cond b3 (.int .i64 n) undef, cond b4 (.slice A30 0 c30) undef, cond b5 (.pointer (some ⟨g3, 2, none⟩)) undef, cond b6 (.slice A l.length c) undef, cond b7 (.slice A33 l.length c33) undef, cond b8 (.agg #[.int .i64 0, .int .i64 1, .slice A34 0 c34]) undef, cond b9 (.slice A35 1 c35) undef, cond b10 (.slice A36 (l ++ [(⟨0, 1, []⟩ : S25)]).length c36) undef, cond b11 (.agg #[.int .i64 op, .int .i64 n, .slice A36 (l ++ [(⟨0, 1, []⟩ : S25)]).length c36]) undef, undef, undef, undef, undef, undef, undef, undef, undef, undef, undef, undef, undef, undef, undef, undef, undef, undef, undef, undef, undef, undef, undef, undef, undef], defers := [] }
def LX (W0 : World) (g3 : Nat) (A0 : Option Addr) (c0 : Nat) (l0 : List Int) (op n : Int) (A : Option Addr) (c : Nat) (l : List S25) (b0 b1 b2 b3 b4 b5 b6 b7 b8 b9 b10 b11 b12 b13 : Bool) (a : Act) (W : World) : Prop :=
  ∃ (A30 : Option Addr) (c30 : Nat) (A33 : Option Addr) (c33 : Nat) (A34 : Option Addr) (c34 : Nat) (A35 : Option Addr) (c35 : Nat) (A36 : Option Addr) (c36 : Nat) (g6 : Nat), a = aX g3 A0 c0 l0 op n A c l A30 c30 A33 c33 A34 c34 A35 c35 A36 c36 g6 b0 b1 b2 b3 b4 b5 b6 b7 b8 b9 b10 b11 b12 b13 ∧ FX W0 op n l A30 c30 A33 c33 A35 c35 A36 c36 g6 b4 b7 b9 b10 b12 b13 W
theorem stop_ {p : Prop} (h : Aside0 p) : p := h.out
set_option maxHeartbeats 8000000 in
set_option maxRecDepth 100000 in
theorem laws_FnExpr.calls (k : Nat) (A0 : Option Addr) (c0 : Nat) (l0 : List Int) (r : Bool) (w : World) (hr0 : Kd.C (Kd.int .u8) w A0 l0.length l0) (hc0 : l0.length ≤ c0) (h : laws_FnExpr.f k l0 = some r) :
    Calls Try.prog 3 #[.slice A0 l0.length c0] w fun e w' => e = .returned (.bool r) ∧ Below w.heap.size w w' := by
  unfold laws_FnExpr.f at h
  by_cases c1 : (l0.length : Int) > 1048576
  · rw [if_pos c1] at h
    obtain rfl := Option.some.inj h
    have c1b : decide (1048576 < (l0.length : Int)) = true := decide_eq_true c1
    have c1c : decide ((l0.length : Int) > 1048576) = true := decide_eq_true c1
    go_enter Try.func3, Try.ntmps3
    go_wp2
    go_ret
    exact ⟨rfl, by repeat (first | exact Below.refl _ _ | apply pw_below_drewN | apply below_drew1)⟩
  rw [if_neg c1] at h
  have c1b : decide (1048576 < (l0.length : Int)) = false := decide_eq_false c1
  have c1c : decide ((l0.length : Int) > 1048576) = false := decide_eq_false c1
  replace h := Option.bind_eq_some_iff.mp h
  obtain ⟨⟨op, n, l⟩, hd, h⟩ := h
  replace h := Option.bind_eq_some_iff.mp h
  obtain ⟨a, ha, h⟩ := h
  replace h := Option.bind_eq_some_iff.mp h
  obtain ⟨b, hb, h⟩ := h
  dsimp only at ha hb h
  have HR := Aside0.mk hr0
  have HC := Aside0.mk hc0
  have HD := Aside0.mk hd
  have HA := Aside0.mk ha
  have HB := Aside0.mk hb
  clear hr0 hc0 hd ha hb c1
  by_cases c2 : (a != b || !a) = true
  · rw [if_pos c2] at h
    obtain rfl := Option.some.inj h
    cases a <;> cases b <;> first
      | (exact absurd c2 (by decide))
      | (clear c2
         go_enter Try.func3, Try.ntmps3
         go_wp2_with (first | ((with_reducible refine gate_callee (f := 14) rfl ?_); refine goesL_ (some 11) rfl rfl Try.func14 (by kernel_rfl) rfl #[.slice A0 l0.length c0] rfl (by (try simp only [List.map_toArray, List.map_cons, List.map_nil]); first | done | rfl) ?_; (with_reducible refine (spec_DrawExprValid.calls k A0 c0 l0 op n l _ HR.out HC.out HD.out).mono ?_); rintro e w1 ⟨v1, rfl, hn, hb⟩; refine ⟨_, rfl, ?_⟩; obtain ⟨A, c, rfl⟩ := Kd.N_slice hn; have HN := Aside0.mk hn; have BW := Aside0.mk hb; clear hn hb) | ((with_reducible refine gate_dst (N := 3) rfl ?_); refine box_event (N := 3) ?hg ?hd (cs := #[(.int .i64 0), (.int .i64 0), (.slice none 0 0)]) (t := 25) ?hr ?_; (case hd => rfl); (case hg => rfl); (case hr => first | (go_simp; done) | (go_simp; rfl)); intro g3 hg w2 hbox hb; have n_ := Aside0.mk (Kd.N_mono (ok' := fun q => w.heap.size ≤ q ∧ q ≠ g3) (Kd.N_below (Kd.N_bound HN.out) hb) (fun q hq => ⟨hq.1, by have := hq.2; omega⟩)); have GE3 : Aside0 (w.heap.size ≤ g3) := ⟨by have := BW.out.size; omega⟩; have b_ := Aside0.mk (below_step BW.out hb); have X3 := Aside0.mk hbox; clear HN BW; have HN := n_; have BW := b_; clear n_ b_ hb hg; have z0 : w2.cell? ⟨g3, 0, none⟩ = some (.int .i64 0) := blk_cell hbox 0; have f0 := blk_frozen hbox 0; have z1 : w2.cell? ⟨g3, 1, none⟩ = some (.int .i64 0) := blk_cell hbox 1; have f1 := blk_frozen hbox 1; have z2 : w2.cell? ⟨g3, 2, none⟩ = some (.slice none 0 0) := blk_cell hbox 2; have f2 := blk_frozen hbox 2; clear hbox) | ((with_reducible refine gate_callee (f := 15) rfl ?_); refine stop_ ?_) | fail)
         refine ⟨?_⟩
         have x_ := Aside0.mk (blk_put (cs' := #[(.int .i64 op), (.int .i64 n), (.slice A l.length c)]) (blk_put (cs' := #[(.int .i64 op), (.int .i64 n), (.slice none 0 0)]) (blk_put (cs' := #[(.int .i64 op), (.int .i64 0), (.slice none 0 0)]) X3.out 0 (.int .i64 op) rfl) 1 (.int .i64 n) rfl) 2 (.slice A l.length c) rfl)
         have b_ := Aside0.mk (below_set (j := 2) (v := (.slice A l.length c)) (below_set (j := 1) (v := (.int .i64 n)) (below_set (j := 0) (v := (.int .i64 op)) BW.out GE3.out) GE3.out) GE3.out)
         have n_ := Aside0.mk (Kd.N_mono (ok' := fun q => w.heap.size ≤ q ∧ q ≠ g3) (Kd.N_far (p := ⟨g3, 2, none⟩) (Kd.N_far (p := ⟨g3, 1, none⟩) (Kd.N_far (p := ⟨g3, 0, none⟩) (Kd.N_mono HN.out (fun q hq => (⟨hq, hq.2⟩ : _ ∧ q ≠ g3))) (fun q hq => hq.2) (.int .i64 op)) (fun q hq => hq.2) (.int .i64 n)) (fun q hq => hq.2) (.slice A l.length c)) (fun q hq => hq.1))
         clear z0 z1 z2 f0 f1 f2 X3 BW HN
         generalize (((w2.setCell ⟨g3, 0, none⟩ (.int .i64 op)).setCell ⟨g3, 1, none⟩ (.int .i64 n)).setCell ⟨g3, 2, none⟩ (.slice A l.length c)) = w3 at x_ b_ n_ ⊢
         have B3 := x_
         have BW := b_
         have HN := n_
         clear x_ b_ n_
         have p0 : w3.cell? ⟨g3, 0, none⟩ = some (.int .i64 op) := blk_cell B3.out 0
         have p1 : w3.cell? ⟨g3, 1, none⟩ = some (.int .i64 n) := blk_cell B3.out 1
         have p2 : w3.cell? ⟨g3, 2, none⟩ = some (.slice A l.length c) := blk_cell B3.out 2
         go_wp2_with (first | ((with_reducible refine gate_callee (f := 15) rfl ?_); refine goesL_ (some 13) rfl rfl Try.func15 (by kernel_rfl) rfl #[(.agg #[.int .i64 op, .int .i64 n, .slice A l.length c])] rfl (by (try simp only [List.map_toArray, List.map_cons, List.map_nil]); first | done | rfl) ?_; (with_reducible refine (impl_ExprValid.calls k op n A c l _ _ (Kd.N_reads' HN.out).2.2 (Kd.N_reads' HN.out).2.1 HA.out).mono ?_); rintro e w4 ⟨rfl, hb⟩; refine ⟨_, rfl, ?_⟩; have b_ := Aside0.mk (below_step BW.out hb); have n_ := Aside0.mk (Kd.N_below HN.out hb); have x_ := Aside0.mk (blk_below B3.out hb); clear BW HN B3 p0 p1 p2; have BW := b_; have HN := n_; have B3 := x_; clear b_ n_ x_ hb; have p0 : w4.cell? ⟨g3, 0, none⟩ = some (.int .i64 op) := blk_cell B3.out 0; have p1 : w4.cell? ⟨g3, 1, none⟩ = some (.int .i64 n) := blk_cell B3.out 1; have p2 : w4.cell? ⟨g3, 2, none⟩ = some (.slice A l.length c) := blk_cell B3.out 2) | ((with_reducible refine gate_callee (f := 16) rfl ?_); refine goesL_ (some 15) rfl rfl Try.func16 (by kernel_rfl) rfl #[(.agg #[.int .i64 op, .int .i64 n, .slice A l.length c])] rfl (by (try simp only [List.map_toArray, List.map_cons, List.map_nil]); first | done | rfl) ?_; (with_reducible refine (spec_ExprValid.calls k op n A c l _ _ (Kd.N_reads' HN.out).2.2 (Kd.N_reads' HN.out).2.1 HB.out).mono ?_); rintro e w5 ⟨rfl, hb⟩; refine ⟨_, rfl, ?_⟩; have b_ := Aside0.mk (below_step BW.out hb); have n_ := Aside0.mk (Kd.N_below HN.out hb); have x_ := Aside0.mk (blk_below B3.out hb); clear BW HN B3 p0 p1 p2; have BW := b_; have HN := n_; have B3 := x_; clear b_ n_ x_ hb; have p0 : w5.cell? ⟨g3, 0, none⟩ = some (.int .i64 op) := blk_cell B3.out 0; have p1 : w5.cell? ⟨g3, 1, none⟩ = some (.int .i64 n) := blk_cell B3.out 1; have p2 : w5.cell? ⟨g3, 2, none⟩ = some (.slice A l.length c) := blk_cell B3.out 2) | fail)
         go_ret
         exact ⟨rfl, BW.out⟩)
  rw [if_neg c2] at h
  obtain ⟨rfl, rfl⟩ : a = true ∧ b = true := by
    revert c2
    cases a <;> cases b <;> simp
  clear c2
  by_cases c3 : l.length + 1 ≤ 1000000
  case neg =>
    rw [if_neg c3] at h
    exact absurd h (by simp)
  rw [if_pos c3] at h
  replace h := Option.bind_eq_some_iff.mp h
  obtain ⟨x, hx, h⟩ := h
  have LM := Aside0.mk c3
  have HX := Aside0.mk hx
  have HH := Aside0.mk h
  clear c3 hx h
  go_enter Try.func3, Try.ntmps3
  go_wp2_with (first | ((with_reducible refine gate_callee (f := 14) rfl ?_); refine goesL_ (some 11) rfl rfl Try.func14 (by kernel_rfl) rfl #[.slice A0 l0.length c0] rfl (by (try simp only [List.map_toArray, List.map_cons, List.map_nil]); first | done | rfl) ?_; (with_reducible refine (spec_DrawExprValid.calls k A0 c0 l0 op n l _ HR.out HC.out HD.out).mono ?_); rintro e w1 ⟨v1, rfl, hn, hb⟩; refine ⟨_, rfl, ?_⟩; obtain ⟨A, c, rfl⟩ := Kd.N_slice hn; have HN := Aside0.mk hn; have BW := Aside0.mk hb; clear hn hb) | ((with_reducible refine gate_dst (N := 3) rfl ?_); refine box_event (N := 3) ?hg ?hd (cs := #[(.int .i64 0), (.int .i64 0), (.slice none 0 0)]) (t := 25) ?hr ?_; (case hd => rfl); (case hg => rfl); (case hr => first | (go_simp; done) | (go_simp; rfl)); intro g3 hg w2 hbox hb; have n_ := Aside0.mk (Kd.N_mono (ok' := fun q => w.heap.size ≤ q ∧ q ≠ g3) (Kd.N_below (Kd.N_bound HN.out) hb) (fun q hq => ⟨hq.1, by have := hq.2; omega⟩)); have GE3 : Aside0 (w.heap.size ≤ g3) := ⟨by have := BW.out.size; omega⟩; have b_ := Aside0.mk (below_step BW.out hb); have X3 := Aside0.mk hbox; clear HN BW; have HN := n_; have BW := b_; clear n_ b_ hb hg; have z0 : w2.cell? ⟨g3, 0, none⟩ = some (.int .i64 0) := blk_cell hbox 0; have f0 := blk_frozen hbox 0; have z1 : w2.cell? ⟨g3, 1, none⟩ = some (.int .i64 0) := blk_cell hbox 1; have f1 := blk_frozen hbox 1; have z2 : w2.cell? ⟨g3, 2, none⟩ = some (.slice none 0 0) := blk_cell hbox 2; have f2 := blk_frozen hbox 2; clear hbox) | ((with_reducible refine gate_callee (f := 15) rfl ?_); refine stop_ ?_) | fail)
  refine ⟨?_⟩
  have x_ := Aside0.mk (blk_put (cs' := #[(.int .i64 op), (.int .i64 n), (.slice A l.length c)]) (blk_put (cs' := #[(.int .i64 op), (.int .i64 n), (.slice none 0 0)]) (blk_put (cs' := #[(.int .i64 op), (.int .i64 0), (.slice none 0 0)]) X3.out 0 (.int .i64 op) rfl) 1 (.int .i64 n) rfl) 2 (.slice A l.length c) rfl)
  have b_ := Aside0.mk (below_set (j := 2) (v := (.slice A l.length c)) (below_set (j := 1) (v := (.int .i64 n)) (below_set (j := 0) (v := (.int .i64 op)) BW.out GE3.out) GE3.out) GE3.out)
  have n_ := Aside0.mk (Kd.N_mono (ok' := fun q => w.heap.size ≤ q ∧ q ≠ g3) (Kd.N_far (p := ⟨g3, 2, none⟩) (Kd.N_far (p := ⟨g3, 1, none⟩) (Kd.N_far (p := ⟨g3, 0, none⟩) (Kd.N_mono HN.out (fun q hq => (⟨hq, hq.2⟩ : _ ∧ q ≠ g3))) (fun q hq => hq.2) (.int .i64 op)) (fun q hq => hq.2) (.int .i64 n)) (fun q hq => hq.2) (.slice A l.length c)) (fun q hq => hq.1))
  clear z0 z1 z2 f0 f1 f2 X3 BW HN
  generalize (((w2.setCell ⟨g3, 0, none⟩ (.int .i64 op)).setCell ⟨g3, 1, none⟩ (.int .i64 n)).setCell ⟨g3, 2, none⟩ (.slice A l.length c)) = w3 at x_ b_ n_ ⊢
  have B3 := x_
  have BW := b_
  have HN := n_
  clear x_ b_ n_
  have p0 : w3.cell? ⟨g3, 0, none⟩ = some (.int .i64 op) := blk_cell B3.out 0
  have p1 : w3.cell? ⟨g3, 1, none⟩ = some (.int .i64 n) := blk_cell B3.out 1
  have p2 : w3.cell? ⟨g3, 2, none⟩ = some (.slice A l.length c) := blk_cell B3.out 2
  go_wp2_with (first | ((with_reducible refine gate_callee (f := 15) rfl ?_); refine goesL_ (some 13) rfl rfl Try.func15 (by kernel_rfl) rfl #[(.agg #[.int .i64 op, .int .i64 n, .slice A l.length c])] rfl (by (try simp only [List.map_toArray, List.map_cons, List.map_nil]); first | done | rfl) ?_; (with_reducible refine (impl_ExprValid.calls k op n A c l _ _ (Kd.N_reads' HN.out).2.2 (Kd.N_reads' HN.out).2.1 HA.out).mono ?_); rintro e w4 ⟨rfl, hb⟩; refine ⟨_, rfl, ?_⟩; have b_ := Aside0.mk (below_step BW.out hb); have n_ := Aside0.mk (Kd.N_below HN.out hb); have x_ := Aside0.mk (blk_below B3.out hb); clear BW HN B3 p0 p1 p2; have BW := b_; have HN := n_; have B3 := x_; clear b_ n_ x_ hb; have p0 : w4.cell? ⟨g3, 0, none⟩ = some (.int .i64 op) := blk_cell B3.out 0; have p1 : w4.cell? ⟨g3, 1, none⟩ = some (.int .i64 n) := blk_cell B3.out 1; have p2 : w4.cell? ⟨g3, 2, none⟩ = some (.slice A l.length c) := blk_cell B3.out 2) | ((with_reducible refine gate_callee (f := 16) rfl ?_); refine goesL_ (some 15) rfl rfl Try.func16 (by kernel_rfl) rfl #[(.agg #[.int .i64 op, .int .i64 n, .slice A l.length c])] rfl (by (try simp only [List.map_toArray, List.map_cons, List.map_nil]); first | done | rfl) ?_; (with_reducible refine (spec_ExprValid.calls k op n A c l _ _ (Kd.N_reads' HN.out).2.2 (Kd.N_reads' HN.out).2.1 HB.out).mono ?_); rintro e w5 ⟨rfl, hb⟩; refine ⟨_, rfl, ?_⟩; have b_ := Aside0.mk (below_step BW.out hb); have n_ := Aside0.mk (Kd.N_below HN.out hb); have x_ := Aside0.mk (blk_below B3.out hb); clear BW HN B3 p0 p1 p2; have BW := b_; have HN := n_; have B3 := x_; clear b_ n_ x_ hb; have p0 : w5.cell? ⟨g3, 0, none⟩ = some (.int .i64 op) := blk_cell B3.out 0; have p1 : w5.cell? ⟨g3, 1, none⟩ = some (.int .i64 n) := blk_cell B3.out 1; have p2 : w5.cell? ⟨g3, 2, none⟩ = some (.slice A l.length c) := blk_cell B3.out 2) | fail)
  refine wp_region_any (by kernel_rfl) ?_
  have x_ := Aside0.mk (blk_drew B3.out)
  have n_ := Aside0.mk (Kd.N_drew HN.out)
  have b_ := Aside0.mk (below_drew1 BW.out)
  show wpAny _ _ _ _ _ _ _ w5.drew
  clear p0 p1 p2 B3 HN BW
  generalize w5.drew = W0 at x_ n_ b_ ⊢
  have B3 := x_
  have HN := n_
  have BW := b_
  clear x_ n_ b_
  refine any_inv (n := 14) (T := (true, [([], []), ([0], [0]), ([], []), ([2], [2]), ([], []), ([], []), ([5], [5]), ([4, 6], [4, 6]), ([7], []), ([8], [8]), ([7, 9, 8], [7, 9]), ([1, 3, 10], [1, 3, 10]), ([], []), ([12, 11, 10, 0, 1, 2, 3, 4, 5, 6, 7, 8, 9, 10, 11, 12], [11, 12])])) rfl (by kernel_rfl) (by decide) (fun b a W => LX W0 g3 A0 c0 l0 op n A c l (b 0) (b 1) (b 2) (b 3) (b 4) (b 5) (b 6) (b 7) (b 8) (b 9) (b 10) (b 11) (b 12) (b 13) a W) ?hstep ?hdone _ _ ?hstart
  case hstart => exact ⟨none, 0, none, 0, none, 0, none, 0, none, 0, 0, rfl, ⟨Below.refl _ _, (fun e => Bool.noConfusion e), (fun e => Bool.noConfusion e), (fun e => Bool.noConfusion e), (fun e => Bool.noConfusion e), (fun e => Bool.noConfusion e)⟩⟩
  case hstep =>
    intro i b a W hi hbi hneed hcl hI
    have hcase : i = 0 ∨ i = 1 ∨ i = 2 ∨ i = 3 ∨ i = 4 ∨ i = 5 ∨ i = 6 ∨ i = 7 ∨ i = 8 ∨ i = 9 ∨ i = 10 ∨ i = 11 ∨ i = 12 ∨ i = 13 := by omega
    rcases hcase with rfl | rfl | rfl | rfl | rfl | rfl | rfl | rfl | rfl | rfl | rfl | rfl | rfl | rfl
    · -- 0
      have z1 : b 1 = false := by
        cases hz : b 1 with
        | false => rfl
        | true =>
          have hq := hcl 1 _ hz rfl 0 (by decide)
          rw [hbi] at hq
          cases hq
      have z11 : b 11 = false := by
        cases hz : b 11 with
        | false => rfl
        | true =>
          have hq := hcl 11 _ hz rfl 1 (by decide)
          rw [z1] at hq
          cases hq
      have z13 : b 13 = false := by
        cases hz : b 13 with
        | false => rfl
        | true =>
          have hq := hcl 13 _ hz rfl 0 (by decide)
          rw [hbi] at hq
          cases hq
      have hpost : ∀ a' W', LX W0 g3 A0 c0 l0 op n A c l true false (b 2) (b 3) (b 4) (b 5) (b 6) (b 7) (b 8) (b 9) (b 10) false (b 12) false a' W' → (fun b a W => LX W0 g3 A0 c0 l0 op n A c l (b 0) (b 1) (b 2) (b 3) (b 4) (b 5) (b 6) (b 7) (b 8) (b 9) (b 10) (b 11) (b 12) (b 13) a W) (fun j => if j = 0 then true else b j) a' W' := fun a' W' hh => by
        show LX W0 g3 A0 c0 l0 op n A c l true (b 1) (b 2) (b 3) (b 4) (b 5) (b 6) (b 7) (b 8) (b 9) (b 10) (b 11) (b 12) (b 13) a' W'
        rw [z1, z11, z13]
        exact hh
      replace hI : LX W0 g3 A0 c0 l0 op n A c l (b 0) (b 1) (b 2) (b 3) (b 4) (b 5) (b 6) (b 7) (b 8) (b 9) (b 10) (b 11) (b 12) (b 13) a W := hI
      rw [hbi, z1, z11, z13] at hI
      obtain ⟨A30, c30, A33, c33, A34, c34, A35, c35, A36, c36, g6, rfl, h⟩ := hI
      refine wpOp_step rfl (fun K' hK' => ?_)
      refine event_step (W := W) (w1 := W) (v := ?_) (by rfl) ?_ ?_
      rotate_left
      · (try simp only [aX, cond_true, cond_false])
        go_simp
        first | with_reducible rfl | rfl
      refine hK' _ _ (hpost _ _ ⟨A30, c30, A33, c33, A34, c34, A35, c35, A36, c36, g6, ?_, h⟩)
      show Act.put _ (some 26) _ = _
      simp only [aX, Act.put, List.setIfInBounds_toArray, List.set_cons_zero, List.set_cons_succ, i64_w, i32_w]
      rfl
    · -- 1
      have n0 : b 0 = true := hneed _ rfl 0 (by decide)
      have z11 : b 11 = false := by
        cases hz : b 11 with
        | false => rfl
        | true =>
          have hq := hcl 11 _ hz rfl 1 (by decide)
          rw [hbi] at hq
          cases hq
      have z13 : b 13 = false := by
        cases hz : b 13 with
        | false => rfl
        | true =>
          have hq := hcl 13 _ hz rfl 1 (by decide)
          rw [hbi] at hq
          cases hq
      have hpost : ∀ a' W', LX W0 g3 A0 c0 l0 op n A c l true true (b 2) (b 3) (b 4) (b 5) (b 6) (b 7) (b 8) (b 9) (b 10) false (b 12) false a' W' → (fun b a W => LX W0 g3 A0 c0 l0 op n A c l (b 0) (b 1) (b 2) (b 3) (b 4) (b 5) (b 6) (b 7) (b 8) (b 9) (b 10) (b 11) (b 12) (b 13) a W) (fun j => if j = 1 then true else b j) a' W' := fun a' W' hh => by
        show LX W0 g3 A0 c0 l0 op n A c l (b 0) true (b 2) (b 3) (b 4) (b 5) (b 6) (b 7) (b 8) (b 9) (b 10) (b 11) (b 12) (b 13) a' W'
        rw [n0, z11, z13]
        exact hh
      replace hI : LX W0 g3 A0 c0 l0 op n A c l (b 0) (b 1) (b 2) (b 3) (b 4) (b 5) (b 6) (b 7) (b 8) (b 9) (b 10) (b 11) (b 12) (b 13) a W := hI
      rw [hbi, n0, z11, z13] at hI
      obtain ⟨A30, c30, A33, c33, A34, c34, A35, c35, A36, c36, g6, rfl, h⟩ := hI
      refine wpOp_step rfl (fun K' hK' => ?_)
      have hx3 := blk_below B3.out h.hB
      have q0 : W.cell? ⟨g3, 0, none⟩ = some (.int .i64 op) := blk_cell hx3 0
      have q1 : W.cell? ⟨g3, 1, none⟩ = some (.int .i64 n) := blk_cell hx3 1
      have q2 : W.cell? ⟨g3, 2, none⟩ = some (.slice A l.length c) := blk_cell hx3 2
      refine event_step (W := W) (w1 := W) (v := ?_) (by rfl) ?_ ?_
      rotate_left
      · (try simp only [aX, cond_true, cond_false])
        go_simp
        first | with_reducible rfl | rfl
      refine hK' _ _ (hpost _ _ ⟨A30, c30, A33, c33, A34, c34, A35, c35, A36, c36, g6, ?_, h⟩)
      show Act.put _ (some 27) _ = _
      simp only [aX, Act.put, List.setIfInBounds_toArray, List.set_cons_zero, List.set_cons_succ, i64_w, i32_w]
      rfl
    · -- 2
      have z3 : b 3 = false := by
        cases hz : b 3 with
        | false => rfl
        | true =>
          have hq := hcl 3 _ hz rfl 2 (by decide)
          rw [hbi] at hq
          cases hq
      have z11 : b 11 = false := by
        cases hz : b 11 with
        | false => rfl
        | true =>
          have hq := hcl 11 _ hz rfl 3 (by decide)
          rw [z3] at hq
          cases hq
      have z13 : b 13 = false := by
        cases hz : b 13 with
        | false => rfl
        | true =>
          have hq := hcl 13 _ hz rfl 2 (by decide)
          rw [hbi] at hq
          cases hq
      have hpost : ∀ a' W', LX W0 g3 A0 c0 l0 op n A c l (b 0) (b 1) true false (b 4) (b 5) (b 6) (b 7) (b 8) (b 9) (b 10) false (b 12) false a' W' → (fun b a W => LX W0 g3 A0 c0 l0 op n A c l (b 0) (b 1) (b 2) (b 3) (b 4) (b 5) (b 6) (b 7) (b 8) (b 9) (b 10) (b 11) (b 12) (b 13) a W) (fun j => if j = 2 then true else b j) a' W' := fun a' W' hh => by
        show LX W0 g3 A0 c0 l0 op n A c l (b 0) (b 1) true (b 3) (b 4) (b 5) (b 6) (b 7) (b 8) (b 9) (b 10) (b 11) (b 12) (b 13) a' W'
        rw [z3, z11, z13]
        exact hh
      replace hI : LX W0 g3 A0 c0 l0 op n A c l (b 0) (b 1) (b 2) (b 3) (b 4) (b 5) (b 6) (b 7) (b 8) (b 9) (b 10) (b 11) (b 12) (b 13) a W := hI
      rw [hbi, z3, z11, z13] at hI
      obtain ⟨A30, c30, A33, c33, A34, c34, A35, c35, A36, c36, g6, rfl, h⟩ := hI
      refine wpOp_step rfl (fun K' hK' => ?_)
      refine event_step (W := W) (w1 := W) (v := ?_) (by rfl) ?_ ?_
      rotate_left
      · (try simp only [aX, cond_true, cond_false])
        go_simp
        first | with_reducible rfl | rfl
      refine hK' _ _ (hpost _ _ ⟨A30, c30, A33, c33, A34, c34, A35, c35, A36, c36, g6, ?_, h⟩)
      show Act.put _ (some 28) _ = _
      simp only [aX, Act.put, List.setIfInBounds_toArray, List.set_cons_zero, List.set_cons_succ, i64_w, i32_w]
      rfl
    · -- 3
      have n2 : b 2 = true := hneed _ rfl 2 (by decide)
      have z11 : b 11 = false := by
        cases hz : b 11 with
        | false => rfl
        | true =>
          have hq := hcl 11 _ hz rfl 3 (by decide)
          rw [hbi] at hq
          cases hq
      have z13 : b 13 = false := by
        cases hz : b 13 with
        | false => rfl
        | true =>
          have hq := hcl 13 _ hz rfl 3 (by decide)
          rw [hbi] at hq
          cases hq
      have hpost : ∀ a' W', LX W0 g3 A0 c0 l0 op n A c l (b 0) (b 1) true true (b 4) (b 5) (b 6) (b 7) (b 8) (b 9) (b 10) false (b 12) false a' W' → (fun b a W => LX W0 g3 A0 c0 l0 op n A c l (b 0) (b 1) (b 2) (b 3) (b 4) (b 5) (b 6) (b 7) (b 8) (b 9) (b 10) (b 11) (b 12) (b 13) a W) (fun j => if j = 3 then true else b j) a' W' := fun a' W' hh => by
        show LX W0 g3 A0 c0 l0 op n A c l (b 0) (b 1) (b 2) true (b 4) (b 5) (b 6) (b 7) (b 8) (b 9) (b 10) (b 11) (b 12) (b 13) a' W'
        rw [n2, z11, z13]
        exact hh
      replace hI : LX W0 g3 A0 c0 l0 op n A c l (b 0) (b 1) (b 2) (b 3) (b 4) (b 5) (b 6) (b 7) (b 8) (b 9) (b 10) (b 11) (b 12) (b 13) a W := hI
      rw [hbi, n2, z11, z13] at hI
      obtain ⟨A30, c30, A33, c33, A34, c34, A35, c35, A36, c36, g6, rfl, h⟩ := hI
      refine wpOp_step rfl (fun K' hK' => ?_)
      have hx3 := blk_below B3.out h.hB
      have q0 : W.cell? ⟨g3, 0, none⟩ = some (.int .i64 op) := blk_cell hx3 0
      have q1 : W.cell? ⟨g3, 1, none⟩ = some (.int .i64 n) := blk_cell hx3 1
      have q2 : W.cell? ⟨g3, 2, none⟩ = some (.slice A l.length c) := blk_cell hx3 2
      refine event_step (W := W) (w1 := W) (v := ?_) (by rfl) ?_ ?_
      rotate_left
      · (try simp only [aX, cond_true, cond_false])
        go_simp
        first | with_reducible rfl | rfl
      refine hK' _ _ (hpost _ _ ⟨A30, c30, A33, c33, A34, c34, A35, c35, A36, c36, g6, ?_, h⟩)
      show Act.put _ (some 29) _ = _
      simp only [aX, Act.put, List.setIfInBounds_toArray, List.set_cons_zero, List.set_cons_succ, i64_w, i32_w]
      rfl
    · -- 4
      have z7 : b 7 = false := by
        cases hz : b 7 with
        | false => rfl
        | true =>
          have hq := hcl 7 _ hz rfl 4 (by decide)
          rw [hbi] at hq
          cases hq
      have z8 : b 8 = false := by
        cases hz : b 8 with
        | false => rfl
        | true =>
          have hq := hcl 8 _ hz rfl 7 (by decide)
          rw [z7] at hq
          cases hq
      have z9 : b 9 = false := by
        cases hz : b 9 with
        | false => rfl
        | true =>
          have hq := hcl 9 _ hz rfl 8 (by decide)
          rw [z8] at hq
          cases hq
      have z10 : b 10 = false := by
        cases hz : b 10 with
        | false => rfl
        | true =>
          have hq := hcl 10 _ hz rfl 7 (by decide)
          rw [z7] at hq
          cases hq
      have z11 : b 11 = false := by
        cases hz : b 11 with
        | false => rfl
        | true =>
          have hq := hcl 11 _ hz rfl 10 (by decide)
          rw [z10] at hq
          cases hq
      have z13 : b 13 = false := by
        cases hz : b 13 with
        | false => rfl
        | true =>
          have hq := hcl 13 _ hz rfl 4 (by decide)
          rw [hbi] at hq
          cases hq
      have hpost : ∀ a' W', LX W0 g3 A0 c0 l0 op n A c l (b 0) (b 1) (b 2) (b 3) true (b 5) (b 6) false false false false false (b 12) false a' W' → (fun b a W => LX W0 g3 A0 c0 l0 op n A c l (b 0) (b 1) (b 2) (b 3) (b 4) (b 5) (b 6) (b 7) (b 8) (b 9) (b 10) (b 11) (b 12) (b 13) a W) (fun j => if j = 4 then true else b j) a' W' := fun a' W' hh => by
        show LX W0 g3 A0 c0 l0 op n A c l (b 0) (b 1) (b 2) (b 3) true (b 5) (b 6) (b 7) (b 8) (b 9) (b 10) (b 11) (b 12) (b 13) a' W'
        rw [z7, z8, z9, z10, z11, z13]
        exact hh
      replace hI : LX W0 g3 A0 c0 l0 op n A c l (b 0) (b 1) (b 2) (b 3) (b 4) (b 5) (b 6) (b 7) (b 8) (b 9) (b 10) (b 11) (b 12) (b 13) a W := hI
      rw [hbi, z7, z8, z9, z10, z11, z13] at hI
      obtain ⟨A30, c30, A33, c33, A34, c34, A35, c35, A36, c36, g6, rfl, h⟩ := hI
      refine wpOp_step rfl (fun K' hK' => ?_)
      have hlt := h.hB.size
      refine Kd.N_lit_step k25 W.heap.size 25 ?hg (N' := 30) ?hd (w0 := W) (xs := ([] : List S25)) (inner := []) (ok := fun k => b 12 = true → k ≠ g6) (okp := fun _ => False) ?hr ?hp (fun _ hq => hq.elim) ?hf (Below.refl _ _) (Nat.le_refl _) (by simp) ?_
      case hd => rfl
      case hg => rfl
      case hr => (try simp only [aX, cond_true, cond_false]); first | (go_simp; done) | (go_simp; rfl)
      case hp => exact Reps.none _ _
      case hf => exact fun e => by have := blk_lt (h.h6 e).2; omega
      intro v1 W' hn hb hg _
      obtain ⟨A', c', rfl⟩ := Kd.N_slice hn
      have hb' : Below W.heap.size W W' := hb
      have h' := h.ext hb'
      refine hK' _ _ (hpost _ _ ⟨A', c', A33, c33, A34, c34, A35, c35, A36, c36, g6, ?_, ⟨h'.hB, fun _ _ => Kd.N_lower hn hlt, (fun e => Bool.noConfusion e), (fun e => Bool.noConfusion e), (fun e => Bool.noConfusion e), h'.h6⟩⟩)
      show Act.put _ (some 30) _ = _
      simp only [aX, Act.put, List.setIfInBounds_toArray, List.set_cons_zero, List.set_cons_succ]
      rfl
    · -- 5
      have z6 : b 6 = false := by
        cases hz : b 6 with
        | false => rfl
        | true =>
          have hq := hcl 6 _ hz rfl 5 (by decide)
          rw [hbi] at hq
          cases hq
      have z7 : b 7 = false := by
        cases hz : b 7 with
        | false => rfl
        | true =>
          have hq := hcl 7 _ hz rfl 6 (by decide)
          rw [z6] at hq
          cases hq
      have z8 : b 8 = false := by
        cases hz : b 8 with
        | false => rfl
        | true =>
          have hq := hcl 8 _ hz rfl 7 (by decide)
          rw [z7] at hq
          cases hq
      have z9 : b 9 = false := by
        cases hz : b 9 with
        | false => rfl
        | true =>
          have hq := hcl 9 _ hz rfl 8 (by decide)
          rw [z8] at hq
          cases hq
      have z10 : b 10 = false := by
        cases hz : b 10 with
        | false => rfl
        | true =>
          have hq := hcl 10 _ hz rfl 7 (by decide)
          rw [z7] at hq
          cases hq
      have z11 : b 11 = false := by
        cases hz : b 11 with
        | false => rfl
        | true =>
          have hq := hcl 11 _ hz rfl 10 (by decide)
          rw [z10] at hq
          cases hq
      have z13 : b 13 = false := by
        cases hz : b 13 with
        | false => rfl
        | true =>
          have hq := hcl 13 _ hz rfl 5 (by decide)
          rw [hbi] at hq
          cases hq
      have hpost : ∀ a' W', LX W0 g3 A0 c0 l0 op n A c l (b 0) (b 1) (b 2) (b 3) (b 4) true false false false false false false (b 12) false a' W' → (fun b a W => LX W0 g3 A0 c0 l0 op n A c l (b 0) (b 1) (b 2) (b 3) (b 4) (b 5) (b 6) (b 7) (b 8) (b 9) (b 10) (b 11) (b 12) (b 13) a W) (fun j => if j = 5 then true else b j) a' W' := fun a' W' hh => by
        show LX W0 g3 A0 c0 l0 op n A c l (b 0) (b 1) (b 2) (b 3) (b 4) true (b 6) (b 7) (b 8) (b 9) (b 10) (b 11) (b 12) (b 13) a' W'
        rw [z6, z7, z8, z9, z10, z11, z13]
        exact hh
      replace hI : LX W0 g3 A0 c0 l0 op n A c l (b 0) (b 1) (b 2) (b 3) (b 4) (b 5) (b 6) (b 7) (b 8) (b 9) (b 10) (b 11) (b 12) (b 13) a W := hI
      rw [hbi, z6, z7, z8, z9, z10, z11, z13] at hI
      obtain ⟨A30, c30, A33, c33, A34, c34, A35, c35, A36, c36, g6, rfl, h⟩ := hI
      refine wpOp_step rfl (fun K' hK' => ?_)
      refine event_step (W := W) (w1 := W) (v := ?_) (by rfl) ?_ ?_
      rotate_left
      · (try simp only [aX, cond_true, cond_false])
        go_simp
        first | with_reducible rfl | rfl
      refine hK' _ _ (hpost _ _ ⟨A30, c30, A33, c33, A34, c34, A35, c35, A36, c36, g6, ?_, h⟩)
      show Act.put _ (some 31) _ = _
      simp only [aX, Act.put, List.setIfInBounds_toArray, List.set_cons_zero, List.set_cons_succ, i64_w, i32_w]
      rfl
    · -- 6
      have n5 : b 5 = true := hneed _ rfl 5 (by decide)
      have z7 : b 7 = false := by
        cases hz : b 7 with
        | false => rfl
        | true =>
          have hq := hcl 7 _ hz rfl 6 (by decide)
          rw [hbi] at hq
          cases hq
      have z8 : b 8 = false := by
        cases hz : b 8 with
        | false => rfl
        | true =>
          have hq := hcl 8 _ hz rfl 7 (by decide)
          rw [z7] at hq
          cases hq
      have z9 : b 9 = false := by
        cases hz : b 9 with
        | false => rfl
        | true =>
          have hq := hcl 9 _ hz rfl 8 (by decide)
          rw [z8] at hq
          cases hq
      have z10 : b 10 = false := by
        cases hz : b 10 with
        | false => rfl
        | true =>
          have hq := hcl 10 _ hz rfl 7 (by decide)
          rw [z7] at hq
          cases hq
      have z11 : b 11 = false := by
        cases hz : b 11 with
        | false => rfl
        | true =>
          have hq := hcl 11 _ hz rfl 10 (by decide)
          rw [z10] at hq
          cases hq
      have z13 : b 13 = false := by
        cases hz : b 13 with
        | false => rfl
        | true =>
          have hq := hcl 13 _ hz rfl 6 (by decide)
          rw [hbi] at hq
          cases hq
      have hpost : ∀ a' W', LX W0 g3 A0 c0 l0 op n A c l (b 0) (b 1) (b 2) (b 3) (b 4) true true false false false false false (b 12) false a' W' → (fun b a W => LX W0 g3 A0 c0 l0 op n A c l (b 0) (b 1) (b 2) (b 3) (b 4) (b 5) (b 6) (b 7) (b 8) (b 9) (b 10) (b 11) (b 12) (b 13) a W) (fun j => if j = 6 then true else b j) a' W' := fun a' W' hh => by
        show LX W0 g3 A0 c0 l0 op n A c l (b 0) (b 1) (b 2) (b 3) (b 4) (b 5) true (b 7) (b 8) (b 9) (b 10) (b 11) (b 12) (b 13) a' W'
        rw [n5, z7, z8, z9, z10, z11, z13]
        exact hh
      replace hI : LX W0 g3 A0 c0 l0 op n A c l (b 0) (b 1) (b 2) (b 3) (b 4) (b 5) (b 6) (b 7) (b 8) (b 9) (b 10) (b 11) (b 12) (b 13) a W := hI
      rw [hbi, n5, z7, z8, z9, z10, z11, z13] at hI
      obtain ⟨A30, c30, A33, c33, A34, c34, A35, c35, A36, c36, g6, rfl, h⟩ := hI
      refine wpOp_step rfl (fun K' hK' => ?_)
      have hx3 := blk_below B3.out h.hB
      have q0 : W.cell? ⟨g3, 0, none⟩ = some (.int .i64 op) := blk_cell hx3 0
      have q1 : W.cell? ⟨g3, 1, none⟩ = some (.int .i64 n) := blk_cell hx3 1
      have q2 : W.cell? ⟨g3, 2, none⟩ = some (.slice A l.length c) := blk_cell hx3 2
      refine event_step (W := W) (w1 := W) (v := ?_) (by rfl) ?_ ?_
      rotate_left
      · (try simp only [aX, cond_true, cond_false])
        go_simp
        first | with_reducible rfl | rfl
      refine hK' _ _ (hpost _ _ ⟨A30, c30, A33, c33, A34, c34, A35, c35, A36, c36, g6, ?_, h⟩)
      show Act.put _ (some 32) _ = _
      simp only [aX, Act.put, List.setIfInBounds_toArray, List.set_cons_zero, List.set_cons_succ, i64_w, i32_w]
      rfl
    · -- 7
      have n4 : b 4 = true := hneed _ rfl 4 (by decide)
      have n6 : b 6 = true := hneed _ rfl 6 (by decide)
      have n5 : b 5 = true := hcl 6 _ n6 rfl 5 (by decide)
      have z8 : b 8 = false := by
        cases hz : b 8 with
        | false => rfl
        | true =>
          have hq := hcl 8 _ hz rfl 7 (by decide)
          rw [hbi] at hq
          cases hq
      have z9 : b 9 = false := by
        cases hz : b 9 with
        | false => rfl
        | true =>
          have hq := hcl 9 _ hz rfl 8 (by decide)
          rw [z8] at hq
          cases hq
      have z10 : b 10 = false := by
        cases hz : b 10 with
        | false => rfl
        | true =>
          have hq := hcl 10 _ hz rfl 7 (by decide)
          rw [hbi] at hq
          cases hq
      have z11 : b 11 = false := by
        cases hz : b 11 with
        | false => rfl
        | true =>
          have hq := hcl 11 _ hz rfl 10 (by decide)
          rw [z10] at hq
          cases hq
      have z13 : b 13 = false := by
        cases hz : b 13 with
        | false => rfl
        | true =>
          have hq := hcl 13 _ hz rfl 7 (by decide)
          rw [hbi] at hq
          cases hq
      have hpost : ∀ a' W', LX W0 g3 A0 c0 l0 op n A c l (b 0) (b 1) (b 2) (b 3) true true true true false false false false (b 12) false a' W' → (fun b a W => LX W0 g3 A0 c0 l0 op n A c l (b 0) (b 1) (b 2) (b 3) (b 4) (b 5) (b 6) (b 7) (b 8) (b 9) (b 10) (b 11) (b 12) (b 13) a W) (fun j => if j = 7 then true else b j) a' W' := fun a' W' hh => by
        show LX W0 g3 A0 c0 l0 op n A c l (b 0) (b 1) (b 2) (b 3) (b 4) (b 5) (b 6) true (b 8) (b 9) (b 10) (b 11) (b 12) (b 13) a' W'
        rw [n4, n5, n6, z8, z9, z10, z11, z13]
        exact hh
      replace hI : LX W0 g3 A0 c0 l0 op n A c l (b 0) (b 1) (b 2) (b 3) (b 4) (b 5) (b 6) (b 7) (b 8) (b 9) (b 10) (b 11) (b 12) (b 13) a W := hI
      rw [hbi, n4, n5, n6, z8, z9, z10, z11, z13] at hI
      obtain ⟨A30, c30, A33, c33, A34, c34, A35, c35, A36, c36, g6, rfl, h⟩ := hI
      refine wpOp_step rfl (fun K' hK' => ?_)
      have hlt := h.hB.size
      have hn30 := h.h30 rfl rfl
      have hl := LM.out
      have hrow := Kd.F_below (Kd.N_F (Kd.N_bound HN.out)) h.hB
      have own30 : ∀ q, (.slice A30 0 c30 : Value).ownBlock = some q → W0.heap.size ≤ q := Kd.N_base hn30
      refine Kd.N_append_rows_step k25 (w0 := W0) W0.heap.size (by rfl) (.tmp 30) (.tmp 32) 23 25 (.agg #[.int .i64 0, .int .i64 0, .slice none 0 0]) 40 rfl Try.underlying23 info25 rfl (by decide) (by omega) (.slice A30 0 c30) [] l A l.length c (fun k => b 12 = true → k ≠ g6) _ rfl rfl hn30 hrow ?aK ?aF h.hB hlt ?aL ?_
      case aK => exact fun q hq => ⟨fun e => by have := (h.h6 e).1; have := hq.2; omega, fun e => by have := own30 q e.symm; have := hq.2; omega⟩
      case aF => exact fun q hq e => by have := blk_lt (h.h6 e).2; omega
      case aL => show (0 + l.length) * 40 ≤ _; omega
      intro v1 W' hn hb hg hat
      obtain ⟨A', c', rfl⟩ := Kd.N_slice hn
      rw [List.nil_append] at hn
      refine hK' _ _ (hpost _ _ ⟨A30, c30, A', c', A34, c34, A35, c35, A36, c36, g6, ?_, ⟨hb, (fun _ e => Bool.noConfusion e), fun _ _ => hn, (fun e => Bool.noConfusion e), (fun e => Bool.noConfusion e), fun e => ⟨(h.h6 e).1, blk_grown (h.h6 e).2 hg ?hg6⟩⟩⟩)
      case hg6 => exact fun e2 => hn30.1 _ e2.symm e rfl
      show Act.put _ (some 33) _ = _
      simp only [aX, Act.put, List.setIfInBounds_toArray, List.set_cons_zero, List.set_cons_succ]
      rfl
    · -- 8
      have n7 : b 7 = true := hneed _ rfl 7 (by decide)
      have n4 : b 4 = true := hcl 7 _ n7 rfl 4 (by decide)
      have n6 : b 6 = true := hcl 7 _ n7 rfl 6 (by decide)
      have n5 : b 5 = true := hcl 6 _ n6 rfl 5 (by decide)
      have z9 : b 9 = false := by
        cases hz : b 9 with
        | false => rfl
        | true =>
          have hq := hcl 9 _ hz rfl 8 (by decide)
          rw [hbi] at hq
          cases hq
      have z10 : b 10 = false := by
        cases hz : b 10 with
        | false => rfl
        | true =>
          have hq := hcl 10 _ hz rfl 8 (by decide)
          rw [hbi] at hq
          cases hq
      have z11 : b 11 = false := by
        cases hz : b 11 with
        | false => rfl
        | true =>
          have hq := hcl 11 _ hz rfl 10 (by decide)
          rw [z10] at hq
          cases hq
      have z13 : b 13 = false := by
        cases hz : b 13 with
        | false => rfl
        | true =>
          have hq := hcl 13 _ hz rfl 8 (by decide)
          rw [hbi] at hq
          cases hq
      have hpost : ∀ a' W', LX W0 g3 A0 c0 l0 op n A c l (b 0) (b 1) (b 2) (b 3) true true true true true false false false (b 12) false a' W' → (fun b a W => LX W0 g3 A0 c0 l0 op n A c l (b 0) (b 1) (b 2) (b 3) (b 4) (b 5) (b 6) (b 7) (b 8) (b 9) (b 10) (b 11) (b 12) (b 13) a W) (fun j => if j = 8 then true else b j) a' W' := fun a' W' hh => by
        show LX W0 g3 A0 c0 l0 op n A c l (b 0) (b 1) (b 2) (b 3) (b 4) (b 5) (b 6) (b 7) true (b 9) (b 10) (b 11) (b 12) (b 13) a' W'
        rw [n4, n5, n6, n7, z9, z10, z11, z13]
        exact hh
      replace hI : LX W0 g3 A0 c0 l0 op n A c l (b 0) (b 1) (b 2) (b 3) (b 4) (b 5) (b 6) (b 7) (b 8) (b 9) (b 10) (b 11) (b 12) (b 13) a W := hI
      rw [hbi, n4, n5, n6, n7, z9, z10, z11, z13] at hI
      obtain ⟨A30, c30, A33, c33, A34, c34, A35, c35, A36, c36, g6, rfl, h⟩ := hI
      refine wpOp_step rfl (fun K' hK' => ?_)
      refine goes_ Try.func17 (by kernel_rfl) rfl #[.int .i64 1] (by rfl) rfl rfl (by (try simp only [List.map_toArray, List.map_cons, List.map_nil]); first | done | rfl) ?_
      refine (number_lit 1 _).mono ?_
      rintro e W' ⟨A', c', rfl, hb⟩
      refine ⟨_, rfl, hK' _ _ (hpost _ _ ⟨A30, c30, A33, c33, A', c', A35, c35, A36, c36, g6, ?_, h.ext hb⟩)⟩
      show Act.put _ (some 34) _ = _
      simp only [aX, Act.put, List.setIfInBounds_toArray, List.set_cons_zero, List.set_cons_succ]
      rfl
    · -- 9
      have n8 : b 8 = true := hneed _ rfl 8 (by decide)
      have n7 : b 7 = true := hcl 8 _ n8 rfl 7 (by decide)
      have n4 : b 4 = true := hcl 7 _ n7 rfl 4 (by decide)
      have n6 : b 6 = true := hcl 7 _ n7 rfl 6 (by decide)
      have n5 : b 5 = true := hcl 6 _ n6 rfl 5 (by decide)
      have z10 : b 10 = false := by
        cases hz : b 10 with
        | false => rfl
        | true =>
          have hq := hcl 10 _ hz rfl 9 (by decide)
          rw [hbi] at hq
          cases hq
      have z11 : b 11 = false := by
        cases hz : b 11 with
        | false => rfl
        | true =>
          have hq := hcl 11 _ hz rfl 10 (by decide)
          rw [z10] at hq
          cases hq
      have z13 : b 13 = false := by
        cases hz : b 13 with
        | false => rfl
        | true =>
          have hq := hcl 13 _ hz rfl 9 (by decide)
          rw [hbi] at hq
          cases hq
      have hpost : ∀ a' W', LX W0 g3 A0 c0 l0 op n A c l (b 0) (b 1) (b 2) (b 3) true true true true true true false false (b 12) false a' W' → (fun b a W => LX W0 g3 A0 c0 l0 op n A c l (b 0) (b 1) (b 2) (b 3) (b 4) (b 5) (b 6) (b 7) (b 8) (b 9) (b 10) (b 11) (b 12) (b 13) a W) (fun j => if j = 9 then true else b j) a' W' := fun a' W' hh => by
        show LX W0 g3 A0 c0 l0 op n A c l (b 0) (b 1) (b 2) (b 3) (b 4) (b 5) (b 6) (b 7) (b 8) true (b 10) (b 11) (b 12) (b 13) a' W'
        rw [n4, n5, n6, n7, n8, z10, z11, z13]
        exact hh
      replace hI : LX W0 g3 A0 c0 l0 op n A c l (b 0) (b 1) (b 2) (b 3) (b 4) (b 5) (b 6) (b 7) (b 8) (b 9) (b 10) (b 11) (b 12) (b 13) a W := hI
      rw [hbi, n4, n5, n6, n7, n8, z10, z11, z13] at hI
      obtain ⟨A30, c30, A33, c33, A34, c34, A35, c35, A36, c36, g6, rfl, h⟩ := hI
      refine wpOp_step rfl (fun K' hK' => ?_)
      have hlt := h.hB.size
      have hn33 := h.h33 rfl rfl
      refine Kd.N_lit_step k25 W.heap.size 25 ?hg (N' := 35) ?hd (w0 := W) (xs := [(⟨0, 1, []⟩ : S25)]) (inner := [.int .i64 0, .int .i64 1, .slice A34 0 c34]) (ok := fun k => (b 12 = true → k ≠ g6) ∧ some k ≠ (.slice A33 l.length c33 : Value).ownBlock) (okp := fun _ => False) ?hr ?hp (fun _ hq => hq.elim) ?hf (Below.refl _ _) (Nat.le_refl _) (by simp) ?_
      case hd => rfl
      case hg => rfl
      case hr => (try simp only [aX, cond_true, cond_false]); first | (go_simp; done) | (go_simp; rfl)
      case hp => exact Reps.c3 (show Kd.FK k25 _ _ (⟨0, 1, []⟩ : S25) [.int .i64 0, .int .i64 1, .slice A34 0 c34] from k25_mkF _ _ (⟨0, 1, []⟩ : S25) (Nat.zero_le _) (empty_F k25 _ _ A34)) (Reps.none _ _)
      case hf => exact ⟨fun e => by have := blk_lt (h.h6 e).2; omega, fun e => Nat.lt_irrefl _ (Kd.N_lt hn33 _ e.symm)⟩
      intro v1 W' hn hb hg _
      obtain ⟨A', c', rfl⟩ := Kd.N_slice hn
      have hb' : Below W.heap.size W W' := hb
      have h' := h.ext hb'
      refine hK' _ _ (hpost _ _ ⟨A30, c30, A33, c33, A34, c34, A', c', A36, c36, g6, ?_, ⟨h'.hB, (fun _ e => Bool.noConfusion e), h'.h33, fun _ _ => Kd.N_lower hn hlt, (fun e => Bool.noConfusion e), h'.h6⟩⟩)
      show Act.put _ (some 35) _ = _
      simp only [aX, Act.put, List.setIfInBounds_toArray, List.set_cons_zero, List.set_cons_succ]
      rfl
    · -- 10
      have n7 : b 7 = true := hneed _ rfl 7 (by decide)
      have n8 : b 8 = true := hneed _ rfl 8 (by decide)
      have n9 : b 9 = true := hneed _ rfl 9 (by decide)
      have n4 : b 4 = true := hcl 7 _ n7 rfl 4 (by decide)
      have n6 : b 6 = true := hcl 7 _ n7 rfl 6 (by decide)
      have n5 : b 5 = true := hcl 6 _ n6 rfl 5 (by decide)
      have z11 : b 11 = false := by
        cases hz : b 11 with
        | false => rfl
        | true =>
          have hq := hcl 11 _ hz rfl 10 (by decide)
          rw [hbi] at hq
          cases hq
      have z13 : b 13 = false := by
        cases hz : b 13 with
        | false => rfl
        | true =>
          have hq := hcl 13 _ hz rfl 10 (by decide)
          rw [hbi] at hq
          cases hq
      have hpost : ∀ a' W', LX W0 g3 A0 c0 l0 op n A c l (b 0) (b 1) (b 2) (b 3) true true true true true true true false (b 12) false a' W' → (fun b a W => LX W0 g3 A0 c0 l0 op n A c l (b 0) (b 1) (b 2) (b 3) (b 4) (b 5) (b 6) (b 7) (b 8) (b 9) (b 10) (b 11) (b 12) (b 13) a W) (fun j => if j = 10 then true else b j) a' W' := fun a' W' hh => by
        show LX W0 g3 A0 c0 l0 op n A c l (b 0) (b 1) (b 2) (b 3) (b 4) (b 5) (b 6) (b 7) (b 8) (b 9) true (b 11) (b 12) (b 13) a' W'
        rw [n4, n5, n6, n7, n8, n9, z11, z13]
        exact hh
      replace hI : LX W0 g3 A0 c0 l0 op n A c l (b 0) (b 1) (b 2) (b 3) (b 4) (b 5) (b 6) (b 7) (b 8) (b 9) (b 10) (b 11) (b 12) (b 13) a W := hI
      rw [hbi, n4, n5, n6, n7, n8, n9, z11, z13] at hI
      obtain ⟨A30, c30, A33, c33, A34, c34, A35, c35, A36, c36, g6, rfl, h⟩ := hI
      refine wpOp_step rfl (fun K' hK' => ?_)
      have hlt := h.hB.size
      have hn33 := h.h33 rfl rfl
      have hn35 := h.h35 rfl rfl
      have hl := LM.out
      refine Kd.N_append_rows_step k25 (w0 := W0) W0.heap.size (by rfl) (.tmp 33) (.tmp 35) 23 25 (.agg #[.int .i64 0, .int .i64 0, .slice none 0 0]) 40 rfl Try.underlying23 info25 rfl (by decide) (by omega) (.slice A33 l.length c33) l [(⟨0, 1, []⟩ : S25)] A35 1 c35 (fun k => b 12 = true → k ≠ g6) _ rfl rfl hn33 (Kd.N_F hn35) (fun q hq => hq) ?aF h.hB hlt ?aL ?_
      case aF => exact fun q hq e => by have := blk_lt (h.h6 e).2; omega
      case aL => show (l.length + 1) * 40 ≤ _; omega
      intro v1 W' hn hb hg hat
      obtain ⟨A', c', rfl⟩ := Kd.N_slice hn
      refine hK' _ _ (hpost _ _ ⟨A30, c30, A33, c33, A34, c34, A35, c35, A', c', g6, ?_, ⟨hb, (fun _ e => Bool.noConfusion e), (fun _ e => Bool.noConfusion e), (fun _ e => Bool.noConfusion e), fun _ => hn, fun e => ⟨(h.h6 e).1, blk_grown (h.h6 e).2 hg ?hg6⟩⟩⟩)
      case hg6 => exact fun e2 => hn33.1 _ e2.symm e rfl
      show Act.put _ (some 36) _ = _
      simp only [aX, Act.put, List.setIfInBounds_toArray, List.set_cons_zero, List.set_cons_succ]
      rfl
    · -- 11
      have n1 : b 1 = true := hneed _ rfl 1 (by decide)
      have n3 : b 3 = true := hneed _ rfl 3 (by decide)
      have n10 : b 10 = true := hneed _ rfl 10 (by decide)
      have n0 : b 0 = true := hcl 1 _ n1 rfl 0 (by decide)
      have n2 : b 2 = true := hcl 3 _ n3 rfl 2 (by decide)
      have n7 : b 7 = true := hcl 10 _ n10 rfl 7 (by decide)
      have n8 : b 8 = true := hcl 10 _ n10 rfl 8 (by decide)
      have n9 : b 9 = true := hcl 10 _ n10 rfl 9 (by decide)
      have n4 : b 4 = true := hcl 7 _ n7 rfl 4 (by decide)
      have n6 : b 6 = true := hcl 7 _ n7 rfl 6 (by decide)
      have n5 : b 5 = true := hcl 6 _ n6 rfl 5 (by decide)
      have z13 : b 13 = false := by
        cases hz : b 13 with
        | false => rfl
        | true =>
          have hq := hcl 13 _ hz rfl 11 (by decide)
          rw [hbi] at hq
          cases hq
      have hpost : ∀ a' W', LX W0 g3 A0 c0 l0 op n A c l true true true true true true true true true true true true (b 12) false a' W' → (fun b a W => LX W0 g3 A0 c0 l0 op n A c l (b 0) (b 1) (b 2) (b 3) (b 4) (b 5) (b 6) (b 7) (b 8) (b 9) (b 10) (b 11) (b 12) (b 13) a W) (fun j => if j = 11 then true else b j) a' W' := fun a' W' hh => by
        show LX W0 g3 A0 c0 l0 op n A c l (b 0) (b 1) (b 2) (b 3) (b 4) (b 5) (b 6) (b 7) (b 8) (b 9) (b 10) true (b 12) (b 13) a' W'
        rw [n0, n1, n2, n3, n4, n5, n6, n7, n8, n9, n10, z13]
        exact hh
      replace hI : LX W0 g3 A0 c0 l0 op n A c l (b 0) (b 1) (b 2) (b 3) (b 4) (b 5) (b 6) (b 7) (b 8) (b 9) (b 10) (b 11) (b 12) (b 13) a W := hI
      rw [hbi, n0, n1, n2, n3, n4, n5, n6, n7, n8, n9, n10, z13] at hI
      obtain ⟨A30, c30, A33, c33, A34, c34, A35, c35, A36, c36, g6, rfl, h⟩ := hI
      refine wpOp_step rfl (fun K' hK' => ?_)
      refine event_step (W := W) (w1 := W) (v := .agg #[.int .i64 op, .int .i64 n, .slice A36 (l ++ [(⟨0, 1, []⟩ : S25)]).length c36]) (by rfl) ?_ ?_
      · (try simp only [aX, cond_true, cond_false])
        go_simp
        (try rfl)
      refine hK' _ _ (hpost _ _ ⟨A30, c30, A33, c33, A34, c34, A35, c35, A36, c36, g6, ?_, h⟩)
      show Act.put _ (some 37) _ = _
      simp only [aX, Act.put, List.setIfInBounds_toArray, List.set_cons_zero, List.set_cons_succ, i64_w, i32_w]
      rfl
    · -- 12
      have z13 : b 13 = false := by
        cases hz : b 13 with
        | false => rfl
        | true =>
          have hq := hcl 13 _ hz rfl 12 (by decide)
          rw [hbi] at hq
          cases hq
      have hpost : ∀ a' W', LX W0 g3 A0 c0 l0 op n A c l (b 0) (b 1) (b 2) (b 3) (b 4) (b 5) (b 6) (b 7) (b 8) (b 9) (b 10) (b 11) true false a' W' → (fun b a W => LX W0 g3 A0 c0 l0 op n A c l (b 0) (b 1) (b 2) (b 3) (b 4) (b 5) (b 6) (b 7) (b 8) (b 9) (b 10) (b 11) (b 12) (b 13) a W) (fun j => if j = 12 then true else b j) a' W' := fun a' W' hh => by
        show LX W0 g3 A0 c0 l0 op n A c l (b 0) (b 1) (b 2) (b 3) (b 4) (b 5) (b 6) (b 7) (b 8) (b 9) (b 10) (b 11) true (b 13) a' W'
        rw [z13]
        exact hh
      replace hI : LX W0 g3 A0 c0 l0 op n A c l (b 0) (b 1) (b 2) (b 3) (b 4) (b 5) (b 6) (b 7) (b 8) (b 9) (b 10) (b 11) (b 12) (b 13) a W := hI
      rw [hbi, z13] at hI
      obtain ⟨A30, c30, A33, c33, A34, c34, A35, c35, A36, c36, g6, rfl, h⟩ := hI
      refine wpOp_step rfl (fun K' hK' => ?_)
      refine box_step ?hg (N := 6) ?hd (cs := #[.int .i64 0, .int .i64 0, .slice none 0 0]) (t := 25) ?hr ?_
      case hd => rfl
      case hg => rfl
      case hr => first | (go_simp; done) | (go_simp; rfl)
      intro gb hgb W' hbox hb
      have hlt := h.hB.size
      have h' := h.ext hb
      have old : ∀ {v : Value} {xs : List S25} {ok : Nat → Prop}, Kd.N k25 25 W W0.heap.size ok v xs → Kd.N k25 25 W' W0.heap.size (fun k => ok k ∧ k ≠ gb) v xs := fun hq => Kd.N_mono (Kd.N_below (Kd.N_bound hq) hb) (fun q hq => ⟨hq.1, by have := hq.2; omega⟩)
      refine hK' _ _ (hpost _ _ ⟨A30, c30, A33, c33, A34, c34, A35, c35, A36, c36, gb, ?_, ⟨h'.hB, fun e f => Kd.N_mono (old (h.h30 e f)) (fun q hq _ => hq.2), fun e f => Kd.N_mono (old (h.h33 e f)) (fun q hq _ => hq.2), fun e f => Kd.N_mono (old (h.h35 e f)) (fun q hq => ⟨fun _ => hq.2, hq.1.2⟩), fun e => Kd.N_mono (old (h.h36 e)) (fun q hq _ => hq.2), fun _ => ⟨by omega, hbox⟩⟩⟩)
      show Act.put _ (some 6) _ = _
      simp only [aX, Act.put, List.setIfInBounds_toArray, List.set_cons_zero, List.set_cons_succ]
      rfl
    · -- 13
      have n0 : b 0 = true := hneed _ rfl 0 (by decide)
      have n1 : b 1 = true := hneed _ rfl 1 (by decide)
      have n2 : b 2 = true := hneed _ rfl 2 (by decide)
      have n3 : b 3 = true := hneed _ rfl 3 (by decide)
      have n4 : b 4 = true := hneed _ rfl 4 (by decide)
      have n5 : b 5 = true := hneed _ rfl 5 (by decide)
      have n6 : b 6 = true := hneed _ rfl 6 (by decide)
      have n7 : b 7 = true := hneed _ rfl 7 (by decide)
      have n8 : b 8 = true := hneed _ rfl 8 (by decide)
      have n9 : b 9 = true := hneed _ rfl 9 (by decide)
      have n10 : b 10 = true := hneed _ rfl 10 (by decide)
      have n11 : b 11 = true := hneed _ rfl 11 (by decide)
      have n12 : b 12 = true := hneed _ rfl 12 (by decide)
      have hpost : ∀ a' W', LX W0 g3 A0 c0 l0 op n A c l true true true true true true true true true true true true true true a' W' → (fun b a W => LX W0 g3 A0 c0 l0 op n A c l (b 0) (b 1) (b 2) (b 3) (b 4) (b 5) (b 6) (b 7) (b 8) (b 9) (b 10) (b 11) (b 12) (b 13) a W) (fun j => if j = 13 then true else b j) a' W' := fun a' W' hh => by
        show LX W0 g3 A0 c0 l0 op n A c l (b 0) (b 1) (b 2) (b 3) (b 4) (b 5) (b 6) (b 7) (b 8) (b 9) (b 10) (b 11) (b 12) true a' W'
        rw [n0, n1, n2, n3, n4, n5, n6, n7, n8, n9, n10, n11, n12]
        exact hh
      replace hI : LX W0 g3 A0 c0 l0 op n A c l (b 0) (b 1) (b 2) (b 3) (b 4) (b 5) (b 6) (b 7) (b 8) (b 9) (b 10) (b 11) (b 12) (b 13) a W := hI
      rw [hbi, n0, n1, n2, n3, n4, n5, n6, n7, n8, n9, n10, n11, n12] at hI
      obtain ⟨A30, c30, A33, c33, A34, c34, A35, c35, A36, c36, g6, rfl, h⟩ := hI
      refine wpOp_step rfl (fun K' hK' => ?_)
      obtain ⟨hg6, hbx⟩ := h.h6 rfl
      replace hbx : W.heap[g6]? = some (.cells #[.int .i64 0, .int .i64 0, .slice none 0 0] 25 (0, 0)) := hbx
      have q0 : W.cell? ⟨g6, 0, none⟩ = some (.int .i64 0) := blk_cell hbx 0
      have f0 := blk_frozen hbx 0
      have q1 : W.cell? ⟨g6, 1, none⟩ = some (.int .i64 0) := blk_cell hbx 1
      have f1 := blk_frozen hbx 1
      have q2 : W.cell? ⟨g6, 2, none⟩ = some (.slice none 0 0) := blk_cell hbx 2
      have f2 := blk_frozen hbx 2
      refine skip_ (w1 := (((W.setCell ⟨g6, 0, none⟩ (.int .i64 op)).setCell ⟨g6, 1, none⟩ (.int .i64 n)).setCell ⟨g6, 2, none⟩ (.slice A36 (l ++ [(⟨0, 1, []⟩ : S25)]).length c36))) (by rfl) rfl ?_ ?_
      · (try simp only [aX, cond_true, cond_false])
        go_simp
        (try rfl)
      refine hK' _ _ (hpost _ _ ⟨A30, c30, A33, c33, A34, c34, A35, c35, A36, c36, g6, rfl, ⟨(below_set (j := 2) (v := (.slice A36 (l ++ [(⟨0, 1, []⟩ : S25)]).length c36)) (below_set (j := 1) (v := (.int .i64 n)) (below_set (j := 0) (v := (.int .i64 op)) h.hB hg6) hg6) hg6), (fun _ e => Bool.noConfusion e), (fun _ e => Bool.noConfusion e), (fun _ e => Bool.noConfusion e), fun e => (Kd.N_far (p := ⟨g6, 2, none⟩) (Kd.N_far (p := ⟨g6, 1, none⟩) (Kd.N_far (p := ⟨g6, 0, none⟩) (h.h36 rfl) (fun q hq => hq rfl) (.int .i64 op)) (fun q hq => hq rfl) (.int .i64 n)) (fun q hq => hq rfl) (.slice A36 (l ++ [(⟨0, 1, []⟩ : S25)]).length c36)), fun _ => ⟨hg6, (blk_put (cs' := #[(.int .i64 op), (.int .i64 n), (.slice A36 (l ++ [(⟨0, 1, []⟩ : S25)]).length c36)]) (blk_put (cs' := #[(.int .i64 op), (.int .i64 n), (.slice none 0 0)]) (blk_put (cs' := #[(.int .i64 op), (.int .i64 0), (.slice none 0 0)]) hbx 0 (.int .i64 op) rfl) 1 (.int .i64 n) rfl) 2 (.slice A36 (l ++ [(⟨0, 1, []⟩ : S25)]).length c36) rfl)⟩⟩⟩)
  case hdone =>
    intro b a W1 hall hI
    replace hI : LX W0 g3 A0 c0 l0 op n A c l (b 0) (b 1) (b 2) (b 3) (b 4) (b 5) (b 6) (b 7) (b 8) (b 9) (b 10) (b 11) (b 12) (b 13) a W1 := hI
    rw [hall 0 (by decide), hall 1 (by decide), hall 2 (by decide), hall 3 (by decide), hall 4 (by decide), hall 5 (by decide), hall 6 (by decide), hall 7 (by decide), hall 8 (by decide), hall 9 (by decide), hall 10 (by decide), hall 11 (by decide), hall 12 (by decide), hall 13 (by decide)] at hI
    obtain ⟨A30, c30, A33, c33, A34, c34, A35, c35, A36, c36, g6, rfl, h⟩ := hI
    simp only [aX, cond_true]
    have H36 := Aside0.mk (h.h36 rfl)
    have B61 := Aside0.mk (show W1.heap[g6]? = some (.cells #[.int .i64 op, .int .i64 n, .slice A36 (l ++ [(⟨0, 1, []⟩ : S25)]).length c36] 25 (0, 0)) from (h.h6 rfl).2)
    have B31 := Aside0.mk (blk_below B3.out h.hB)
    have BW1 := Aside0.mk (below_step BW.out h.hB)
    have HRow := Aside0.mk (Kd.N_reads' (Kd.N_below HN.out h.hB)).2.2
    have BT := Aside0.mk (Below.refl W1.heap.size W1)
    clear h hall B3 BW HN
    generalize (l ++ [(⟨0, 1, []⟩ : S25)]) = xl at HX H36 B61 ⊢
    have b3_ := blk_below B31.out BT.out
    have p0 : W1.cell? ⟨g3, 0, none⟩ = some (.int .i64 op) := blk_cell b3_ 0
    have p1 : W1.cell? ⟨g3, 1, none⟩ = some (.int .i64 n) := blk_cell b3_ 1
    have p2 : W1.cell? ⟨g3, 2, none⟩ = some (.slice A l.length c) := blk_cell b3_ 2
    have b6_ := blk_below B61.out BT.out
    have q0 : W1.cell? ⟨g6, 0, none⟩ = some (.int .i64 op) := blk_cell b6_ 0
    have q1 : W1.cell? ⟨g6, 1, none⟩ = some (.int .i64 n) := blk_cell b6_ 1
    have q2 : W1.cell? ⟨g6, 2, none⟩ = some (.slice A36 xl.length c36) := blk_cell b6_ 2
    clear b3_ b6_
    have H := HH.out
    clear HH
    by_cases d1 : l.length = 0
    · rw [if_pos d1] at H
      obtain rfl := Option.some.inj H
      have d1b : ((l.length : Int) == 0) = true := by rw [d1]; rfl
      clear d1
      go_wp2_with (first | ((with_reducible refine (impl_ExprValid.calls k op n A36 c36 xl x _ (Kd.C_below (Kd.N_reads' H36.out).2.2 BT.out) (Kd.N_reads' H36.out).2.1 HX.out).mono ?_); rintro e wa ⟨rfl, hb⟩; have t_ := Aside0.mk (below_step BT.out hb); clear BT hb; (try clear p0 p1 p2); (try clear q0 q1 q2); (try clear x0 x1 x2 y0 y1 y2); have BT := t_; clear t_; have b3_ := blk_below B31.out BT.out; have p0 : wa.cell? ⟨g3, 0, none⟩ = some (.int .i64 op) := blk_cell b3_ 0; have p1 : wa.cell? ⟨g3, 1, none⟩ = some (.int .i64 n) := blk_cell b3_ 1; have p2 : wa.cell? ⟨g3, 2, none⟩ = some (.slice A l.length c) := blk_cell b3_ 2; have b6_ := blk_below B61.out BT.out; have q0 : wa.cell? ⟨g6, 0, none⟩ = some (.int .i64 op) := blk_cell b6_ 0; have q1 : wa.cell? ⟨g6, 1, none⟩ = some (.int .i64 n) := blk_cell b6_ 1; have q2 : wa.cell? ⟨g6, 2, none⟩ = some (.slice A36 xl.length c36) := blk_cell b6_ 2; clear b3_ b6_; (try dsimp only)) | fail)
      go_ret
      exact ⟨rfl, below_step BW1.out BT.out⟩
    · rw [if_neg d1] at H
      have d1b : ((l.length : Int) == 0) = false := beq_eq_false_iff_ne.mpr (by omega)
      clear d1
      by_cases d2 : 1 < l.length
      case neg =>
        rw [if_neg d2] at H
        exact absurd H (by simp)
      rw [if_pos d2] at H
      replace H := Option.bind_eq_some_iff.mp H
      obtain ⟨p, hp, H⟩ := H
      have HPP := Aside0.mk hp
      clear hp
      obtain ⟨ad, E0, d0, rfl, hx0, hx1, hx2, hxl, hxi⟩ := at_T25 HRow.out 0 (by omega) (by omega)
      obtain ⟨ad', E1, d1, e1, hy0, hy1, hy2, hyl, hyi⟩ := at_T25 HRow.out 1 (by omega) (by omega)
      cases e1
      rw [show (Int.toNat 0 * 3) = 0 from rfl, Addr.add_zero'] at hx0 hx1 hx2
      rw [show (Int.toNat 1 * 3) = 3 from rfl, show ad.add 3 = ⟨ad.block, ad.off + 3, none⟩ from rfl] at hy0 hy1 hy2
      have HX0 := Aside0.mk hx0
      have HX1 := Aside0.mk hx1
      have HX2 := Aside0.mk hx2
      have HY0 := Aside0.mk hy0
      have HY1 := Aside0.mk hy1
      have HY2 := Aside0.mk hy2
      have HXI := Aside0.mk hxi
      have HYI := Aside0.mk hyi
      have HXL := Aside0.mk hxl
      have HYL := Aside0.mk hyl
      have r0 : (0 < l.length) = True := eq_true (by omega)
      have r1 : (1 < l.length) = True := eq_true d2
      have r2 := eq_true (show (0 : Int) < (l.length : Int) by omega)
      have r3 := eq_true (show (1 : Int) < (l.length : Int) by omega)
      clear hxl hyl hxi hyi d2
      cases p with
      | false =>
        rw [if_neg Bool.false_ne_true] at H
        obtain rfl := Option.some.inj H
        go_wp2_with (first | ((with_reducible refine (impl_ExprValid.calls k (rd_T25 l 0).f0 (rd_T25 l 0).f1 E0 d0 (rd_T25 l 0).f2 false _ (Kd.C_below HXI.out BT.out) HXL.out HPP.out).mono ?_); rintro e wa ⟨rfl, hb⟩; have t_ := Aside0.mk (below_step BT.out hb); clear BT hb; (try clear p0 p1 p2); (try clear q0 q1 q2); (try clear x0 x1 x2 y0 y1 y2); have BT := t_; clear t_; have b3_ := blk_below B31.out BT.out; have p0 : wa.cell? ⟨g3, 0, none⟩ = some (.int .i64 op) := blk_cell b3_ 0; have p1 : wa.cell? ⟨g3, 1, none⟩ = some (.int .i64 n) := blk_cell b3_ 1; have p2 : wa.cell? ⟨g3, 2, none⟩ = some (.slice (some ad) l.length c) := blk_cell b3_ 2; have b6_ := blk_below B61.out BT.out; have q0 : wa.cell? ⟨g6, 0, none⟩ = some (.int .i64 op) := blk_cell b6_ 0; have q1 : wa.cell? ⟨g6, 1, none⟩ = some (.int .i64 n) := blk_cell b6_ 1; have q2 : wa.cell? ⟨g6, 2, none⟩ = some (.slice A36 xl.length c36) := blk_cell b6_ 2; clear b3_ b6_; have x0 : wa.cell? ad = some (.int .i64 (rd_T25 l 0).f0) := (BT.out.cell (World.block_lt_of_cell? W1 _ HX0.out)).trans HX0.out; have x1 : wa.cell? ⟨ad.block, ad.off + 1, none⟩ = some (.int .i64 (rd_T25 l 0).f1) := (BT.out.cell (World.block_lt_of_cell? W1 _ HX1.out)).trans HX1.out; have x2 : wa.cell? ⟨ad.block, ad.off + 2, none⟩ = some (.slice E0 (rd_T25 l 0).f2.length d0) := (BT.out.cell (World.block_lt_of_cell? W1 _ HX2.out)).trans HX2.out; have y0 : wa.cell? ⟨ad.block, ad.off + 3, none⟩ = some (.int .i64 (rd_T25 l 1).f0) := (BT.out.cell (World.block_lt_of_cell? W1 _ HY0.out)).trans HY0.out; have y1 : wa.cell? ⟨ad.block, ad.off + 3 + 1, none⟩ = some (.int .i64 (rd_T25 l 1).f1) := (BT.out.cell (World.block_lt_of_cell? W1 _ HY1.out)).trans HY1.out; have y2 : wa.cell? ⟨ad.block, ad.off + 3 + 2, none⟩ = some (.slice E1 (rd_T25 l 1).f2.length d1) := (BT.out.cell (World.block_lt_of_cell? W1 _ HY2.out)).trans HY2.out; (try dsimp only)) | fail)
        go_ret
        exact ⟨rfl, below_step BW1.out BT.out⟩
      | true =>
        rw [if_pos rfl] at H
        replace H := Option.bind_eq_some_iff.mp H
        obtain ⟨q, hq, H⟩ := H
        have HQQ := Aside0.mk hq
        clear hq
        cases q with
        | false =>
          rw [if_neg Bool.false_ne_true] at H
          obtain rfl := Option.some.inj H
          go_wp2_with (first | ((with_reducible refine (impl_ExprValid.calls k (rd_T25 l 0).f0 (rd_T25 l 0).f1 E0 d0 (rd_T25 l 0).f2 true _ (Kd.C_below HXI.out BT.out) HXL.out HPP.out).mono ?_); rintro e wa ⟨rfl, hb⟩; have t_ := Aside0.mk (below_step BT.out hb); clear BT hb; (try clear p0 p1 p2); (try clear q0 q1 q2); (try clear x0 x1 x2 y0 y1 y2); have BT := t_; clear t_; have b3_ := blk_below B31.out BT.out; have p0 : wa.cell? ⟨g3, 0, none⟩ = some (.int .i64 op) := blk_cell b3_ 0; have p1 : wa.cell? ⟨g3, 1, none⟩ = some (.int .i64 n) := blk_cell b3_ 1; have p2 : wa.cell? ⟨g3, 2, none⟩ = some (.slice (some ad) l.length c) := blk_cell b3_ 2; have b6_ := blk_below B61.out BT.out; have q0 : wa.cell? ⟨g6, 0, none⟩ = some (.int .i64 op) := blk_cell b6_ 0; have q1 : wa.cell? ⟨g6, 1, none⟩ = some (.int .i64 n) := blk_cell b6_ 1; have q2 : wa.cell? ⟨g6, 2, none⟩ = some (.slice A36 xl.length c36) := blk_cell b6_ 2; clear b3_ b6_; have x0 : wa.cell? ad = some (.int .i64 (rd_T25 l 0).f0) := (BT.out.cell (World.block_lt_of_cell? W1 _ HX0.out)).trans HX0.out; have x1 : wa.cell? ⟨ad.block, ad.off + 1, none⟩ = some (.int .i64 (rd_T25 l 0).f1) := (BT.out.cell (World.block_lt_of_cell? W1 _ HX1.out)).trans HX1.out; have x2 : wa.cell? ⟨ad.block, ad.off + 2, none⟩ = some (.slice E0 (rd_T25 l 0).f2.length d0) := (BT.out.cell (World.block_lt_of_cell? W1 _ HX2.out)).trans HX2.out; have y0 : wa.cell? ⟨ad.block, ad.off + 3, none⟩ = some (.int .i64 (rd_T25 l 1).f0) := (BT.out.cell (World.block_lt_of_cell? W1 _ HY0.out)).trans HY0.out; have y1 : wa.cell? ⟨ad.block, ad.off + 3 + 1, none⟩ = some (.int .i64 (rd_T25 l 1).f1) := (BT.out.cell (World.block_lt_of_cell? W1 _ HY1.out)).trans HY1.out; have y2 : wa.cell? ⟨ad.block, ad.off + 3 + 2, none⟩ = some (.slice E1 (rd_T25 l 1).f2.length d1) := (BT.out.cell (World.block_lt_of_cell? W1 _ HY2.out)).trans HY2.out; (try dsimp only)) | ((with_reducible refine (impl_ExprValid.calls k (rd_T25 l 1).f0 (rd_T25 l 1).f1 E1 d1 (rd_T25 l 1).f2 false _ (Kd.C_below HYI.out BT.out) HYL.out HQQ.out).mono ?_); rintro e wb ⟨rfl, hb⟩; have t_ := Aside0.mk (below_step BT.out hb); clear BT hb; (try clear p0 p1 p2); (try clear q0 q1 q2); (try clear x0 x1 x2 y0 y1 y2); have BT := t_; clear t_; have b3_ := blk_below B31.out BT.out; have p0 : wb.cell? ⟨g3, 0, none⟩ = some (.int .i64 op) := blk_cell b3_ 0; have p1 : wb.cell? ⟨g3, 1, none⟩ = some (.int .i64 n) := blk_cell b3_ 1; have p2 : wb.cell? ⟨g3, 2, none⟩ = some (.slice (some ad) l.length c) := blk_cell b3_ 2; have b6_ := blk_below B61.out BT.out; have q0 : wb.cell? ⟨g6, 0, none⟩ = some (.int .i64 op) := blk_cell b6_ 0; have q1 : wb.cell? ⟨g6, 1, none⟩ = some (.int .i64 n) := blk_cell b6_ 1; have q2 : wb.cell? ⟨g6, 2, none⟩ = some (.slice A36 xl.length c36) := blk_cell b6_ 2; clear b3_ b6_; have x0 : wb.cell? ad = some (.int .i64 (rd_T25 l 0).f0) := (BT.out.cell (World.block_lt_of_cell? W1 _ HX0.out)).trans HX0.out; have x1 : wb.cell? ⟨ad.block, ad.off + 1, none⟩ = some (.int .i64 (rd_T25 l 0).f1) := (BT.out.cell (World.block_lt_of_cell? W1 _ HX1.out)).trans HX1.out; have x2 : wb.cell? ⟨ad.block, ad.off + 2, none⟩ = some (.slice E0 (rd_T25 l 0).f2.length d0) := (BT.out.cell (World.block_lt_of_cell? W1 _ HX2.out)).trans HX2.out; have y0 : wb.cell? ⟨ad.block, ad.off + 3, none⟩ = some (.int .i64 (rd_T25 l 1).f0) := (BT.out.cell (World.block_lt_of_cell? W1 _ HY0.out)).trans HY0.out; have y1 : wb.cell? ⟨ad.block, ad.off + 3 + 1, none⟩ = some (.int .i64 (rd_T25 l 1).f1) := (BT.out.cell (World.block_lt_of_cell? W1 _ HY1.out)).trans HY1.out; have y2 : wb.cell? ⟨ad.block, ad.off + 3 + 2, none⟩ = some (.slice E1 (rd_T25 l 1).f2.length d1) := (BT.out.cell (World.block_lt_of_cell? W1 _ HY2.out)).trans HY2.out; (try dsimp only)) | fail)
          go_ret
          exact ⟨rfl, below_step BW1.out BT.out⟩
        | true =>
          rw [if_pos rfl] at H
          obtain rfl := Option.some.inj H
          go_wp2_with (first | ((with_reducible refine (impl_ExprValid.calls k (rd_T25 l 0).f0 (rd_T25 l 0).f1 E0 d0 (rd_T25 l 0).f2 true _ (Kd.C_below HXI.out BT.out) HXL.out HPP.out).mono ?_); rintro e wa ⟨rfl, hb⟩; have t_ := Aside0.mk (below_step BT.out hb); clear BT hb; (try clear p0 p1 p2); (try clear q0 q1 q2); (try clear x0 x1 x2 y0 y1 y2); have BT := t_; clear t_; have b3_ := blk_below B31.out BT.out; have p0 : wa.cell? ⟨g3, 0, none⟩ = some (.int .i64 op) := blk_cell b3_ 0; have p1 : wa.cell? ⟨g3, 1, none⟩ = some (.int .i64 n) := blk_cell b3_ 1; have p2 : wa.cell? ⟨g3, 2, none⟩ = some (.slice (some ad) l.length c) := blk_cell b3_ 2; have b6_ := blk_below B61.out BT.out; have q0 : wa.cell? ⟨g6, 0, none⟩ = some (.int .i64 op) := blk_cell b6_ 0; have q1 : wa.cell? ⟨g6, 1, none⟩ = some (.int .i64 n) := blk_cell b6_ 1; have q2 : wa.cell? ⟨g6, 2, none⟩ = some (.slice A36 xl.length c36) := blk_cell b6_ 2; clear b3_ b6_; have x0 : wa.cell? ad = some (.int .i64 (rd_T25 l 0).f0) := (BT.out.cell (World.block_lt_of_cell? W1 _ HX0.out)).trans HX0.out; have x1 : wa.cell? ⟨ad.block, ad.off + 1, none⟩ = some (.int .i64 (rd_T25 l 0).f1) := (BT.out.cell (World.block_lt_of_cell? W1 _ HX1.out)).trans HX1.out; have x2 : wa.cell? ⟨ad.block, ad.off + 2, none⟩ = some (.slice E0 (rd_T25 l 0).f2.length d0) := (BT.out.cell (World.block_lt_of_cell? W1 _ HX2.out)).trans HX2.out; have y0 : wa.cell? ⟨ad.block, ad.off + 3, none⟩ = some (.int .i64 (rd_T25 l 1).f0) := (BT.out.cell (World.block_lt_of_cell? W1 _ HY0.out)).trans HY0.out; have y1 : wa.cell? ⟨ad.block, ad.off + 3 + 1, none⟩ = some (.int .i64 (rd_T25 l 1).f1) := (BT.out.cell (World.block_lt_of_cell? W1 _ HY1.out)).trans HY1.out; have y2 : wa.cell? ⟨ad.block, ad.off + 3 + 2, none⟩ = some (.slice E1 (rd_T25 l 1).f2.length d1) := (BT.out.cell (World.block_lt_of_cell? W1 _ HY2.out)).trans HY2.out; (try dsimp only)) | ((with_reducible refine (impl_ExprValid.calls k (rd_T25 l 1).f0 (rd_T25 l 1).f1 E1 d1 (rd_T25 l 1).f2 true _ (Kd.C_below HYI.out BT.out) HYL.out HQQ.out).mono ?_); rintro e wb ⟨rfl, hb⟩; have t_ := Aside0.mk (below_step BT.out hb); clear BT hb; (try clear p0 p1 p2); (try clear q0 q1 q2); (try clear x0 x1 x2 y0 y1 y2); have BT := t_; clear t_; have b3_ := blk_below B31.out BT.out; have p0 : wb.cell? ⟨g3, 0, none⟩ = some (.int .i64 op) := blk_cell b3_ 0; have p1 : wb.cell? ⟨g3, 1, none⟩ = some (.int .i64 n) := blk_cell b3_ 1; have p2 : wb.cell? ⟨g3, 2, none⟩ = some (.slice (some ad) l.length c) := blk_cell b3_ 2; have b6_ := blk_below B61.out BT.out; have q0 : wb.cell? ⟨g6, 0, none⟩ = some (.int .i64 op) := blk_cell b6_ 0; have q1 : wb.cell? ⟨g6, 1, none⟩ = some (.int .i64 n) := blk_cell b6_ 1; have q2 : wb.cell? ⟨g6, 2, none⟩ = some (.slice A36 xl.length c36) := blk_cell b6_ 2; clear b3_ b6_; have x0 : wb.cell? ad = some (.int .i64 (rd_T25 l 0).f0) := (BT.out.cell (World.block_lt_of_cell? W1 _ HX0.out)).trans HX0.out; have x1 : wb.cell? ⟨ad.block, ad.off + 1, none⟩ = some (.int .i64 (rd_T25 l 0).f1) := (BT.out.cell (World.block_lt_of_cell? W1 _ HX1.out)).trans HX1.out; have x2 : wb.cell? ⟨ad.block, ad.off + 2, none⟩ = some (.slice E0 (rd_T25 l 0).f2.length d0) := (BT.out.cell (World.block_lt_of_cell? W1 _ HX2.out)).trans HX2.out; have y0 : wb.cell? ⟨ad.block, ad.off + 3, none⟩ = some (.int .i64 (rd_T25 l 1).f0) := (BT.out.cell (World.block_lt_of_cell? W1 _ HY0.out)).trans HY0.out; have y1 : wb.cell? ⟨ad.block, ad.off + 3 + 1, none⟩ = some (.int .i64 (rd_T25 l 1).f1) := (BT.out.cell (World.block_lt_of_cell? W1 _ HY1.out)).trans HY1.out; have y2 : wb.cell? ⟨ad.block, ad.off + 3 + 2, none⟩ = some (.slice E1 (rd_T25 l 1).f2.length d1) := (BT.out.cell (World.block_lt_of_cell? W1 _ HY2.out)).trans HY2.out; (try dsimp only)) | ((with_reducible refine (impl_ExprValid.calls k op n A36 c36 xl x _ (Kd.C_below (Kd.N_reads' H36.out).2.2 BT.out) (Kd.N_reads' H36.out).2.1 HX.out).mono ?_); rintro e wc ⟨rfl, hb⟩; have t_ := Aside0.mk (below_step BT.out hb); clear BT hb; (try clear p0 p1 p2); (try clear q0 q1 q2); (try clear x0 x1 x2 y0 y1 y2); have BT := t_; clear t_; have b3_ := blk_below B31.out BT.out; have p0 : wc.cell? ⟨g3, 0, none⟩ = some (.int .i64 op) := blk_cell b3_ 0; have p1 : wc.cell? ⟨g3, 1, none⟩ = some (.int .i64 n) := blk_cell b3_ 1; have p2 : wc.cell? ⟨g3, 2, none⟩ = some (.slice (some ad) l.length c) := blk_cell b3_ 2; have b6_ := blk_below B61.out BT.out; have q0 : wc.cell? ⟨g6, 0, none⟩ = some (.int .i64 op) := blk_cell b6_ 0; have q1 : wc.cell? ⟨g6, 1, none⟩ = some (.int .i64 n) := blk_cell b6_ 1; have q2 : wc.cell? ⟨g6, 2, none⟩ = some (.slice A36 xl.length c36) := blk_cell b6_ 2; clear b3_ b6_; have x0 : wc.cell? ad = some (.int .i64 (rd_T25 l 0).f0) := (BT.out.cell (World.block_lt_of_cell? W1 _ HX0.out)).trans HX0.out; have x1 : wc.cell? ⟨ad.block, ad.off + 1, none⟩ = some (.int .i64 (rd_T25 l 0).f1) := (BT.out.cell (World.block_lt_of_cell? W1 _ HX1.out)).trans HX1.out; have x2 : wc.cell? ⟨ad.block, ad.off + 2, none⟩ = some (.slice E0 (rd_T25 l 0).f2.length d0) := (BT.out.cell (World.block_lt_of_cell? W1 _ HX2.out)).trans HX2.out; have y0 : wc.cell? ⟨ad.block, ad.off + 3, none⟩ = some (.int .i64 (rd_T25 l 1).f0) := (BT.out.cell (World.block_lt_of_cell? W1 _ HY0.out)).trans HY0.out; have y1 : wc.cell? ⟨ad.block, ad.off + 3 + 1, none⟩ = some (.int .i64 (rd_T25 l 1).f1) := (BT.out.cell (World.block_lt_of_cell? W1 _ HY1.out)).trans HY1.out; have y2 : wc.cell? ⟨ad.block, ad.off + 3 + 2, none⟩ = some (.slice E1 (rd_T25 l 1).f2.length d1) := (BT.out.cell (World.block_lt_of_cell? W1 _ HY2.out)).trans HY2.out; (try dsimp only)) | fail)
          go_ret
          exact ⟨by first | rfl | (cases x <;> rfl), below_step BW1.out BT.out⟩


end Go.Proofs.Ytajifknepdikbaa.PA

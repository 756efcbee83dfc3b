-- made by a program of this session (wip/myprint.py over the kit's print)
import Derived.Test.YtiakpoamjiodoaaV
import Derived.Test.YtiakpoamjiodoaaPAx0
import Derived.Test.YtiakpoamjiodoaaPAx1
import Derived.Test.YtiakpoamjiodoaaPAx4
import Derived.Test.YtiakpoamjiodoaaPAx8
import Derived.Test.YtiakpoamjiodoaaPAx15
namespace Go.Proofs.Ytiakpoamjiodoaa.PA
open Go.RowKit Go.Proofs.YtiakpoamjiodoaaW.PrintWords Go.Proofs.YtiakpoamjiodoaaW.PrintLast Go.Proofs.YtiakpoamjiodoaaW.PrintMore
attribute [local go_sem] max2_int min2_int max_two min_two max_three min_three max_four min_four   -- for this text's walks alone
set_option linter.unusedVariables false
set_option linter.unusedSimpArgs false

/-! ### laws_FnRing: function 9 -/
theorem any_inv {P : Program} {ops : Array Oper} {Q : Exit → Act → World → Prop} {n : Nat} {T : Bool × List (List Nat × List Nat)} (hn : ops.size = n) (hT : rtab .any ops = T)
    (hac : (List.range n).all (fun i => match T.2[i]? with | some r => r.1.all (fun j => decide (j < i)) | none => false) = true)
    (I : (Nat → Bool) → Act → World → Prop)
    (hstep : ∀ (i : Nat) (b : Nat → Bool) (a : Act) (w : World), i < n → b i = false → (∀ r, T.2[i]? = some r → ∀ j ∈ r.1, b j = true) → (∀ j r, b j = true → T.2[j]? = some r → ∀ q ∈ r.1, b q = true) → I b a w → wpOp P ops Q i (fun a' w' => I (fun j => if j = i then true else b j) a' w') a w)
    (hdone : ∀ (b : Nat → Bool) (a : Act) (w : World), (∀ j, j < n → b j = true) → I b a w → Q .normal a w)
    (a : Act) (w : World) (h0 : I (fun _ => false) a w) : wpAny P .any ops Q n (Array.replicate n false) a w := by
  have key : ∀ (fuel : Nat) (l : Array Bool) (a : Act) (w : World), l.size = n → ((List.range n).countP (fun j => !l.getD j false)) ≤ fuel →
      (∀ j r, l.getD j false = true → T.2[j]? = some r → ∀ q ∈ r.1, l.getD q false = true) → I (fun j => l.getD j false) a w → wpAny P .any ops Q fuel l a w := by
    have all_of : ∀ l : Array Bool, l.size = n → Region.ready .any ops l = [] → ∀ j, j < n → l.getD j false = true := by
      intro l hl hr j
      induction j using Nat.strongRecOn with
      | _ j ih =>
      intro hj
      cases hb : l.getD j false with
      | true => rfl
      | false =>
        have hm : j ∈ Region.ready .any ops l := by
          rw [ready_eq, hT]
          unfold readyT
          have hlen : T.2.length = n := by rw [← hT, rtab_length, hn]
          rw [List.mem_filter, List.mem_range, hlen]
          refine ⟨hj, ?_⟩
          unfold readyAt
          have e1 : l.toList.getD j true = false := by
            rw [← gd]
            have hlt : j < l.size := by omega
            simp only [Array.getD_eq_getD_getElem?, Array.getElem?_eq_getElem hlt, Option.getD_some] at hb ⊢
            exact hb
          rw [e1]
          have h1 := List.all_eq_true.1 hac j (List.mem_range.2 hj)
          cases hq : T.2[j]? with
          | none => rw [hq] at h1; cases h1
          | some r =>
            rw [hq] at h1
            simp only [List.all_eq_true, decide_eq_true_eq] at h1
            simp only [Bool.not_false, Bool.true_and, List.all_eq_true]
            intro q hqm
            rw [← gd]
            exact ih q (h1 q hqm) (by have := h1 q hqm; omega)
        rw [hr] at hm
        cases hm
    intro fuel
    induction fuel with
    | zero =>
      intro l a w hl hc hcl hI
      have hall : ∀ j, j < n → l.getD j false = true := by
        intro j hj
        have := List.countP_eq_zero.1 (Nat.le_zero.1 hc) j (List.mem_range.2 hj)
        simpa using this
      refine ⟨?_, hdone _ a w hall hI⟩
      cases hr : Region.ready .any ops l with
      | nil => rfl
      | cons i rs =>
        have hm : i ∈ Region.ready .any ops l := by rw [hr]; exact List.mem_cons_self
        obtain ⟨h1, o, h2, _⟩ := mem_ready.1 hm
        have hi : i < l.size := by rw [hl, ← hn]; exact (Array.getElem?_eq_some_iff.1 h2).1
        have := hall i (by omega)
        simp only [Array.getD_eq_getD_getElem?, Array.getElem?_eq_getElem hi, Option.getD_some] at h1 this
        rw [h1] at this
        cases this
    | succ fuel ih =>
      intro l a w hl hc hcl hI
      refine ⟨fun hr => hdone _ a w (all_of l hl hr) hI, fun i hm => ?_⟩
      obtain ⟨h1, o, h2, h3⟩ := mem_ready.1 hm
      have hi : i < n := by rw [← hn]; exact (Array.getElem?_eq_some_iff.1 h2).1
      have hil : i < l.size := by omega
      have hbi : l.getD i false = false := by
        simp only [Array.getD_eq_getD_getElem?, Array.getElem?_eq_getElem hil, Option.getD_some] at h1 ⊢
        exact h1
      have hneed : ∀ r, T.2[i]? = some r → ∀ j ∈ r.1, l.getD j false = true := by
        intro r hr j hj
        rw [ready_eq, hT] at hm
        unfold readyT at hm
        have := (List.mem_filter.1 hm).2
        unfold readyAt at this
        rw [hr, Bool.and_eq_true] at this
        have h5 := List.all_eq_true.1 this.2 j hj
        rw [← gd] at h5
        exact h5
      have hf : ∀ j, (l.setIfInBounds i true).getD j false = if j = i then true else l.getD j false := by
        intro j
        by_cases hji : j = i
        · subst hji
          rw [if_pos rfl]
          simp [Array.getD_eq_getD_getElem?, hil]
        · rw [if_neg hji]
          simp [Array.getD_eq_getD_getElem?, Array.getElem?_setIfInBounds, Ne.symm hji]
      refine wpOp_mono (fun a' w' h' => ih _ a' w' (by rw [Array.size_setIfInBounds]; exact hl) ?_ ?_ ?_) (hstep i (fun j => l.getD j false) a w hi hbi hneed hcl hI)
      · have hlt : (List.range n).countP (fun j => !(l.setIfInBounds i true).getD j false) < (List.range n).countP (fun j => !l.getD j false) := by
          rw [List.countP_eq_length_filter, List.countP_eq_length_filter]
          have hsub : ((List.range n).filter (fun j => !(l.setIfInBounds i true).getD j false)) = (((List.range n).filter (fun j => !l.getD j false)).filter (fun j => !(j == i))) := by
            rw [List.filter_filter]
            refine List.filter_congr (fun j _ => ?_)
            rw [hf j]
            by_cases hji : j = i
            · subst hji
              simp
            · rw [if_neg hji]
              simp [hji]
          rw [hsub]
          have hmem : i ∈ (List.range n).filter (fun j => !l.getD j false) := List.mem_filter.2 ⟨List.mem_range.2 hi, by rw [hbi]; rfl⟩
          exact List.length_filter_lt_length_iff_exists.2 ⟨i, hmem, by simp⟩
        omega
      · intro j r hj hr q hq
        rw [hf] at hj ⊢
        by_cases hji : j = i
        · subst hji
          split
          · rfl
          · exact hneed r hr q hq
        · rw [if_neg hji] at hj
          split
          · rfl
          · exact hcl j r hj hr q hq
      · have : (fun j => (l.setIfInBounds i true).getD j false) = fun j => if j = i then true else l.getD j false := funext hf
        rw [this]
        exact h'
  have hz : ∀ j, (Array.replicate n false).getD j false = false := by
    intro j
    simp only [Array.getD_eq_getD_getElem?, Array.getElem?_replicate]
    split <;> rfl
  refine key n _ a w (by simp) ?_ ?_ ?_
  · exact Nat.le_trans List.countP_le_length (by rw [List.length_range]; exact Nat.le_refl _)
  · intro j r hj
    rw [hz] at hj
    cases hj
  · have : (fun j => (Array.replicate n false).getD j false) = fun _ => false := funext hz
    rw [this]
    exact h0
theorem empty_V {α : Type} (d : Kd α) (e : Nat) (w : World) (base : Nat) (A : Option Addr) (c : Nat) : Kd.V d e w base (fun _ => False) (.slice A ([] : List α).length c) [] :=
  ⟨A, c, rfl, Nat.zero_le _, fun W' _ => ⟨rfl, by simp, fun h => absurd h (Nat.lt_irrefl 0)⟩⟩
theorem empty_F {α : Type} (d : Kd α) (w : World) (ok : Nat → Prop) (A : Option Addr) : Kd.F d w ok A ([] : List α).length [] := fun W' _ => ⟨rfl, by simp, fun h => absurd h (Nat.lt_irrefl 0)⟩
structure FR (W0 : World) (a0 a1 a2 : Int) (l : List Int) (A1 : Option Addr) (c1 : Nat) (ld : List Int) (g6 : Nat) (b10 b11 : Bool) (W : World) : Prop where
  hB : Below W0.heap.size W0 W
  h6 : b10 = true → W0.heap.size ≤ g6 ∧ W.heap[g6]? = some (.cells (cond b11 #[(.int .i64 a0), (.int .i64 a1), (.int .i64 a2), (.slice A1 ld.length c1)] #[(.int .i64 0), (.int .i64 0), (.int .i64 0), (.slice none 0 0)]) 24 (0, 0))
def aR (g3 : Nat) (A0 : Option Addr) (c0 : Nat) (l0 : List Int) (a0 a1 a2 : Int) (A : Option Addr) (c : Nat) (l : List Int) (A1 : Option Addr) (c1 : Nat) (ld : List Int) (g6 : Nat) (b0 b1 b2 b3 b4 b5 b6 b7 b8 b9 b10 b11 : Bool) : Act :=
  { tmps := #[(.slice A0 l0.length c0), undef, (.bool false), (.pointer (some ⟨g3, 0, none⟩)), (.bool true), (.bool true), cond b10 (.pointer (some ⟨g6, 0, none⟩)) undef, undef, undef, undef, (.slice A0 l0.length c0), (.int .i64 (l0.length : Int)), (.bool false), (.slice A0 l0.length c0), (.agg #[(.int .i64 a0), (.int .i64 a1), (.int .i64 a2), (.slice A l.length c)]), (.agg #[(.int .i64 a0), (.int .i64 a1), (.int .i64 a2), (.slice A l.length c)]), (.bool true), (.agg #[(.int .i64 a0), (.int .i64 a1), (.int .i64 a2), (.slice A l.length c)]), (.bool true), (.bool true), (.bool true), (.bool false), (.bool false), (.bool true), (.bool false), (.bool false), undef, undef, undef, cond b0 (.pointer (some ⟨g3, 0, none⟩)) undef, cond b1 (.int .i64 a0) undef, cond b2 (.pointer (some ⟨g3, 1, none⟩)) undef, cond b3 (.int .i64 a1) undef, cond b4 (.pointer (some ⟨g3, 2, none⟩)) undef, cond b5 (.int .i64 a2) undef, cond b6 (.pointer (some ⟨g3, 3, none⟩)) undef, cond b7 (.slice A l.length c) undef, cond b8 (.slice A1 ld.length c1) undef, cond b9 (.agg #[(.int .i64 a0), (.int .i64 a1), (.int .i64 a2), (.slice A1 ld.length c1)]) undef, undef, undef, undef, undef, undef, undef, undef, undef, undef, undef, undef, undef, undef, undef, undef, undef, undef, undef, undef, undef, undef, undef, undef, undef, undef, undef, undef, undef, undef, undef, undef, undef, undef, undef, undef, undef, undef, undef, undef, undef, undef, undef, undef], defers := [] }
def LR (W0 : World) (g3 : Nat) (A0 : Option Addr) (c0 : Nat) (l0 : List Int) (a0 a1 a2 : Int) (A : Option Addr) (c : Nat) (l : List Int) (A1 : Option Addr) (c1 : Nat) (ld : List Int) (b0 b1 b2 b3 b4 b5 b6 b7 b8 b9 b10 b11 : Bool) (a : Act) (W : World) : Prop :=
  ∃ (g6 : Nat), a = aR g3 A0 c0 l0 a0 a1 a2 A c l A1 c1 ld g6 b0 b1 b2 b3 b4 b5 b6 b7 b8 b9 b10 b11 ∧ FR W0 a0 a1 a2 l A1 c1 ld g6 b10 b11 W
theorem stop_ {p : Prop} (h : Aside0 p) : p := h.out
set_option maxHeartbeats 8000000 in
set_option maxRecDepth 100000 in
theorem laws_FnRing.calls (k : Nat) (A0 : Option Addr) (c0 : Nat) (l0 : List Int) (r : Bool) (w : World) (hr0 : Kd.C (Kd.int .u8) w A0 l0.length l0) (hc0 : l0.length ≤ c0) (h : laws_FnRing.f k l0 = some r) :
    Calls Try.prog 9 #[.slice A0 l0.length c0] w fun e w' => e = .returned (.bool r) ∧ Below w.heap.size w w' := by
  unfold laws_FnRing.f at h
  by_cases c1 : (l0.length : Int) > 1048576
  · rw [if_pos c1] at h
    obtain rfl := Option.some.inj h
    have c1b : decide (1048576 < (l0.length : Int)) = true := decide_eq_true c1
    have c1c : decide ((l0.length : Int) > 1048576) = true := decide_eq_true c1
    go_enter Try.func9, Try.ntmps9
    go_wp2
    go_ret
    exact ⟨rfl, by repeat (first | exact Below.refl _ _ | apply pw_below_drewN | apply below_drew1)⟩
  rw [if_neg c1] at h
  have c1b : decide (1048576 < (l0.length : Int)) = false := decide_eq_false c1
  have c1c : decide ((l0.length : Int) > 1048576) = false := decide_eq_false c1
  replace h := Option.bind_eq_some_iff.mp h
  obtain ⟨⟨a0, a1, a2, l⟩, hd, h⟩ := h
  replace h := Option.bind_eq_some_iff.mp h
  obtain ⟨a, ha, h⟩ := h
  replace h := Option.bind_eq_some_iff.mp h
  obtain ⟨b, hb, h⟩ := h
  dsimp only at ha hb h
  have HR := Aside0.mk hr0
  have HC := Aside0.mk hc0
  have HD := Aside0.mk hd
  have HA := Aside0.mk ha
  have HB := Aside0.mk hb
  clear hr0 hc0 hd ha hb c1
  by_cases c2 : (a != b || !a) = true
  · rw [if_pos c2] at h
    obtain rfl := Option.some.inj h
    cases a <;> cases b <;> first
      | (exact absurd c2 (by decide))
      | (clear c2
         go_enter Try.func9, Try.ntmps9
         go_wp2_with (first | ((with_reducible refine gate_callee (f := 36) rfl ?_); refine goesL_ (some 14) rfl rfl Try.func36 (by kernel_rfl) rfl #[.slice A0 l0.length c0] rfl (by (try simp only [List.map_toArray, List.map_cons, List.map_nil]); first | done | rfl) ?_; (with_reducible refine (spec_DrawRingValid.calls k A0 c0 l0 a0 a1 a2 l _ HR.out HC.out HD.out).mono ?_); rintro e w1 ⟨v1, rfl, hn, hb⟩; refine ⟨_, rfl, ?_⟩; obtain ⟨A, c, rfl⟩ := Kd.R_slice hn; have HN := Aside0.mk (Kd.R_reads' hn).2.2; have HL := Aside0.mk (Kd.R_reads' hn).2.1; have BW := Aside0.mk hb; have BT := Aside0.mk (Below.refl w1.heap.size w1); clear hn hb) | ((with_reducible refine gate_dst (N := 3) rfl ?_); refine box_event (N := 3) ?hg ?hd (cs := #[(.int .i64 0), (.int .i64 0), (.int .i64 0), (.slice none 0 0)]) (t := 24) ?hr ?_; (case hd => rfl); (case hg => rfl); (case hr => first | (go_simp; done) | (go_simp; rfl)); intro g3 hg w2 hbox hb; have GE := Aside0.mk (hg : _ = _); have X := Aside0.mk hbox; have HBX := Aside0.mk hb; skip; have z0 : w2.cell? ⟨g3, 0, none⟩ = some (.int .i64 0) := blk_cell hbox 0; have f0 := blk_frozen hbox 0; have z1 : w2.cell? ⟨g3, 1, none⟩ = some (.int .i64 0) := blk_cell hbox 1; have f1 := blk_frozen hbox 1; have z2 : w2.cell? ⟨g3, 2, none⟩ = some (.int .i64 0) := blk_cell hbox 2; have f2 := blk_frozen hbox 2; have z3 : w2.cell? ⟨g3, 3, none⟩ = some (.slice none 0 0) := blk_cell hbox 3; have f3 := blk_frozen hbox 3; skip; clear hbox hb hg) | ((with_reducible refine gate_callee (f := 23) rfl ?_); refine stop_ ?_) | fail)
         refine ⟨?_⟩
         have hb := (below_set (j := 3) (v := (.slice A l.length c)) (below_set (j := 2) (v := (.int .i64 a2)) (below_set (j := 1) (v := (.int .i64 a1)) (below_set (j := 0) (v := (.int .i64 a0)) HBX.out (Nat.le_of_eq GE.out.symm)) (Nat.le_of_eq GE.out.symm)) (Nat.le_of_eq GE.out.symm)) (Nat.le_of_eq GE.out.symm))
         have x_ := Aside0.mk (blk_put (cs' := #[(.int .i64 a0), (.int .i64 a1), (.int .i64 a2), (.slice A l.length c)]) (blk_put (cs' := #[(.int .i64 a0), (.int .i64 a1), (.int .i64 a2), (.slice none 0 0)]) (blk_put (cs' := #[(.int .i64 a0), (.int .i64 a1), (.int .i64 0), (.slice none 0 0)]) (blk_put (cs' := #[(.int .i64 a0), (.int .i64 0), (.int .i64 0), (.slice none 0 0)]) X.out 0 (.int .i64 a0) rfl) 1 (.int .i64 a1) rfl) 2 (.int .i64 a2) rfl) 3 (.slice A l.length c) rfl)
         clear z0 z1 z2 z3 f0 f1 f2 f3 X HBX GE
         skip
         generalize ((((w2.setCell ⟨g3, 0, none⟩ (.int .i64 a0)).setCell ⟨g3, 1, none⟩ (.int .i64 a1)).setCell ⟨g3, 2, none⟩ (.int .i64 a2)).setCell ⟨g3, 3, none⟩ (.slice A l.length c)) = w3 at x_ hb ⊢
         have t_ := Aside0.mk (below_step BT.out hb)
         skip
         clear BT 
         have BT := t_
         clear t_ 
         have B3 := x_
         clear x_ hb
         have p3_0 : w3.cell? ⟨g3, 0, none⟩ = some (.int .i64 a0) := blk_cell B3.out 0
         have p3_1 : w3.cell? ⟨g3, 1, none⟩ = some (.int .i64 a1) := blk_cell B3.out 1
         have p3_2 : w3.cell? ⟨g3, 2, none⟩ = some (.int .i64 a2) := blk_cell B3.out 2
         have p3_3 : w3.cell? ⟨g3, 3, none⟩ = some (.slice A l.length c) := blk_cell B3.out 3
         go_wp2_with (first | ((with_reducible refine gate_callee (f := 23) rfl ?_); refine goesL_ (some 16) rfl rfl Try.func23 (by kernel_rfl) rfl #[(.agg #[(.int .i64 a0), (.int .i64 a1), (.int .i64 a2), (.slice A l.length c)])] rfl (by (try simp only [List.map_toArray, List.map_cons, List.map_nil]); first | done | rfl) ?_; (with_reducible refine (impl_RingValid.calls k a0 a1 a2 A c l _ _ (Kd.C_below HN.out BT.out) HL.out HA.out).mono ?_); rintro e w4 ⟨rfl, hb⟩; refine ⟨_, rfl, ?_⟩; have t_ := Aside0.mk (below_step BT.out hb); have t3_ := Aside0.mk (blk_below B3.out hb); (try clear p3_0 p3_1 p3_2 p3_3); clear BT B3; have BT := t_; have B3 := t3_; clear t_ t3_; clear hb; have p3_0 : w4.cell? ⟨g3, 0, none⟩ = some (.int .i64 a0) := blk_cell B3.out 0; have p3_1 : w4.cell? ⟨g3, 1, none⟩ = some (.int .i64 a1) := blk_cell B3.out 1; have p3_2 : w4.cell? ⟨g3, 2, none⟩ = some (.int .i64 a2) := blk_cell B3.out 2; have p3_3 : w4.cell? ⟨g3, 3, none⟩ = some (.slice A l.length c) := blk_cell B3.out 3) | ((with_reducible refine gate_callee (f := 31) rfl ?_); refine goesL_ (some 18) rfl rfl Try.func31 (by kernel_rfl) rfl #[(.agg #[(.int .i64 a0), (.int .i64 a1), (.int .i64 a2), (.slice A l.length c)])] rfl (by (try simp only [List.map_toArray, List.map_cons, List.map_nil]); first | done | rfl) ?_; (with_reducible refine (spec_RingValid.calls k a0 a1 a2 A c l _ _ (Kd.C_below HN.out BT.out) HL.out HB.out).mono ?_); rintro e w5 ⟨rfl, hb⟩; refine ⟨_, rfl, ?_⟩; have t_ := Aside0.mk (below_step BT.out hb); have t3_ := Aside0.mk (blk_below B3.out hb); (try clear p3_0 p3_1 p3_2 p3_3); clear BT B3; have BT := t_; have B3 := t3_; clear t_ t3_; clear hb; have p3_0 : w5.cell? ⟨g3, 0, none⟩ = some (.int .i64 a0) := blk_cell B3.out 0; have p3_1 : w5.cell? ⟨g3, 1, none⟩ = some (.int .i64 a1) := blk_cell B3.out 1; have p3_2 : w5.cell? ⟨g3, 2, none⟩ = some (.int .i64 a2) := blk_cell B3.out 2; have p3_3 : w5.cell? ⟨g3, 3, none⟩ = some (.slice A l.length c) := blk_cell B3.out 3) | fail)
         go_ret
         exact ⟨rfl, below_step BW.out BT.out⟩)
  rw [if_neg c2] at h
  obtain ⟨rfl, rfl⟩ : a = true ∧ b = true := by
    revert c2
    cases a <;> cases b <;> simp
  clear c2
  by_cases c3 : 1 ≤ l.length
  case neg =>
    rw [if_neg c3] at h
    exact absurd h (by simp)
  rw [if_pos c3] at h
  replace h := Option.bind_eq_some_iff.mp h
  obtain ⟨x, hx, h⟩ := h
  cases x with
  | true => exact absurd h (by simp)
  | false =>
  rw [if_neg Bool.false_ne_true] at h
  replace h := Option.bind_eq_some_iff.mp h
  obtain ⟨y, hy, h⟩ := h
  cases y with
  | true => exact absurd h (by simp)
  | false =>
  rw [if_neg Bool.false_ne_true] at h
  replace h := Option.bind_eq_some_iff.mp h
  obtain ⟨z, hz, h⟩ := h
  cases z with
  | true => exact absurd h (by simp)
  | false =>
  rw [if_neg Bool.false_ne_true] at h
  have LM := Aside0.mk c3
  have HX := Aside0.mk hx
  have HY := Aside0.mk hy
  have HZ := Aside0.mk hz
  have HU := Aside0.mk h
  clear c3 hx hy hz h
  go_enter Try.func9, Try.ntmps9
  go_wp2_with (first | ((with_reducible refine gate_callee (f := 36) rfl ?_); refine goesL_ (some 14) rfl rfl Try.func36 (by kernel_rfl) rfl #[.slice A0 l0.length c0] rfl (by (try simp only [List.map_toArray, List.map_cons, List.map_nil]); first | done | rfl) ?_; (with_reducible refine (spec_DrawRingValid.calls k A0 c0 l0 a0 a1 a2 l _ HR.out HC.out HD.out).mono ?_); rintro e w1 ⟨v1, rfl, hn, hb⟩; refine ⟨_, rfl, ?_⟩; obtain ⟨A, c, rfl⟩ := Kd.R_slice hn; have HN := Aside0.mk (Kd.R_reads' hn).2.2; have HL := Aside0.mk (Kd.R_reads' hn).2.1; have BW := Aside0.mk hb; have BT := Aside0.mk (Below.refl w1.heap.size w1); clear hn hb) | ((with_reducible refine gate_dst (N := 3) rfl ?_); refine box_event (N := 3) ?hg ?hd (cs := #[(.int .i64 0), (.int .i64 0), (.int .i64 0), (.slice none 0 0)]) (t := 24) ?hr ?_; (case hd => rfl); (case hg => rfl); (case hr => first | (go_simp; done) | (go_simp; rfl)); intro g3 hg w2 hbox hb; have GE := Aside0.mk (hg : _ = _); have X := Aside0.mk hbox; have HBX := Aside0.mk hb; skip; have z0 : w2.cell? ⟨g3, 0, none⟩ = some (.int .i64 0) := blk_cell hbox 0; have f0 := blk_frozen hbox 0; have z1 : w2.cell? ⟨g3, 1, none⟩ = some (.int .i64 0) := blk_cell hbox 1; have f1 := blk_frozen hbox 1; have z2 : w2.cell? ⟨g3, 2, none⟩ = some (.int .i64 0) := blk_cell hbox 2; have f2 := blk_frozen hbox 2; have z3 : w2.cell? ⟨g3, 3, none⟩ = some (.slice none 0 0) := blk_cell hbox 3; have f3 := blk_frozen hbox 3; skip; clear hbox hb hg) | ((with_reducible refine gate_callee (f := 23) rfl ?_); refine stop_ ?_) | fail)
  refine ⟨?_⟩
  have hb := (below_set (j := 3) (v := (.slice A l.length c)) (below_set (j := 2) (v := (.int .i64 a2)) (below_set (j := 1) (v := (.int .i64 a1)) (below_set (j := 0) (v := (.int .i64 a0)) HBX.out (Nat.le_of_eq GE.out.symm)) (Nat.le_of_eq GE.out.symm)) (Nat.le_of_eq GE.out.symm)) (Nat.le_of_eq GE.out.symm))
  have x_ := Aside0.mk (blk_put (cs' := #[(.int .i64 a0), (.int .i64 a1), (.int .i64 a2), (.slice A l.length c)]) (blk_put (cs' := #[(.int .i64 a0), (.int .i64 a1), (.int .i64 a2), (.slice none 0 0)]) (blk_put (cs' := #[(.int .i64 a0), (.int .i64 a1), (.int .i64 0), (.slice none 0 0)]) (blk_put (cs' := #[(.int .i64 a0), (.int .i64 0), (.int .i64 0), (.slice none 0 0)]) X.out 0 (.int .i64 a0) rfl) 1 (.int .i64 a1) rfl) 2 (.int .i64 a2) rfl) 3 (.slice A l.length c) rfl)
  clear z0 z1 z2 z3 f0 f1 f2 f3 X HBX GE
  skip
  generalize ((((w2.setCell ⟨g3, 0, none⟩ (.int .i64 a0)).setCell ⟨g3, 1, none⟩ (.int .i64 a1)).setCell ⟨g3, 2, none⟩ (.int .i64 a2)).setCell ⟨g3, 3, none⟩ (.slice A l.length c)) = w3 at x_ hb ⊢
  have t_ := Aside0.mk (below_step BT.out hb)
  skip
  clear BT 
  have BT := t_
  clear t_ 
  have B3 := x_
  clear x_ hb
  have p3_0 : w3.cell? ⟨g3, 0, none⟩ = some (.int .i64 a0) := blk_cell B3.out 0
  have p3_1 : w3.cell? ⟨g3, 1, none⟩ = some (.int .i64 a1) := blk_cell B3.out 1
  have p3_2 : w3.cell? ⟨g3, 2, none⟩ = some (.int .i64 a2) := blk_cell B3.out 2
  have p3_3 : w3.cell? ⟨g3, 3, none⟩ = some (.slice A l.length c) := blk_cell B3.out 3
  go_wp2_with (first | ((with_reducible refine gate_callee (f := 23) rfl ?_); refine goesL_ (some 16) rfl rfl Try.func23 (by kernel_rfl) rfl #[(.agg #[(.int .i64 a0), (.int .i64 a1), (.int .i64 a2), (.slice A l.length c)])] rfl (by (try simp only [List.map_toArray, List.map_cons, List.map_nil]); first | done | rfl) ?_; (with_reducible refine (impl_RingValid.calls k a0 a1 a2 A c l _ _ (Kd.C_below HN.out BT.out) HL.out HA.out).mono ?_); rintro e w4 ⟨rfl, hb⟩; refine ⟨_, rfl, ?_⟩; have t_ := Aside0.mk (below_step BT.out hb); have t3_ := Aside0.mk (blk_below B3.out hb); (try clear p3_0 p3_1 p3_2 p3_3); clear BT B3; have BT := t_; have B3 := t3_; clear t_ t3_; clear hb; have p3_0 : w4.cell? ⟨g3, 0, none⟩ = some (.int .i64 a0) := blk_cell B3.out 0; have p3_1 : w4.cell? ⟨g3, 1, none⟩ = some (.int .i64 a1) := blk_cell B3.out 1; have p3_2 : w4.cell? ⟨g3, 2, none⟩ = some (.int .i64 a2) := blk_cell B3.out 2; have p3_3 : w4.cell? ⟨g3, 3, none⟩ = some (.slice A l.length c) := blk_cell B3.out 3) | ((with_reducible refine gate_callee (f := 31) rfl ?_); refine goesL_ (some 18) rfl rfl Try.func31 (by kernel_rfl) rfl #[(.agg #[(.int .i64 a0), (.int .i64 a1), (.int .i64 a2), (.slice A l.length c)])] rfl (by (try simp only [List.map_toArray, List.map_cons, List.map_nil]); first | done | rfl) ?_; (with_reducible refine (spec_RingValid.calls k a0 a1 a2 A c l _ _ (Kd.C_below HN.out BT.out) HL.out HB.out).mono ?_); rintro e w5 ⟨rfl, hb⟩; refine ⟨_, rfl, ?_⟩; have t_ := Aside0.mk (below_step BT.out hb); have t3_ := Aside0.mk (blk_below B3.out hb); (try clear p3_0 p3_1 p3_2 p3_3); clear BT B3; have BT := t_; have B3 := t3_; clear t_ t3_; clear hb; have p3_0 : w5.cell? ⟨g3, 0, none⟩ = some (.int .i64 a0) := blk_cell B3.out 0; have p3_1 : w5.cell? ⟨g3, 1, none⟩ = some (.int .i64 a1) := blk_cell B3.out 1; have p3_2 : w5.cell? ⟨g3, 2, none⟩ = some (.int .i64 a2) := blk_cell B3.out 2; have p3_3 : w5.cell? ⟨g3, 3, none⟩ = some (.slice A l.length c) := blk_cell B3.out 3) | fail)
  obtain ⟨i0, hi0, _, hsz, _⟩ := info_parts info3
  obtain ⟨A1, hcut, hA1, hC1⟩ := print_drop_of (P := Try.prog) (Value.int .i64) (0 : Int) 22 3 .i64 Try.underlying22 hi0 hsz A c l 1 (by omega) (by have := LM.out; omega) HL.out
  have HCUT := Aside0.mk (show ∀ W : World, (Instr.slice 22 (.slice A l.length c) (some (.int .i64 1)) none none).run Try.prog W = .ok (.slice A1 (l.drop 1).length (c - 1)) W from hcut)
  have HDR := Aside0.mk (show Kd.C (Kd.int .i64) w1 A1 (l.drop 1).length (l.drop 1) from Kd.C_of_reads (h1 := fun _ => rfl) (hA1 _ (Kd.reads_of_C HN.out)))
  have HCR := Aside0.mk (show (l.drop 1).length ≤ c - 1 from hC1)
  clear hcut hA1 hC1 hi0 hsz
  generalize c - 1 = c1 at HCUT HCR
  generalize l.drop 1 = ld at HCUT HCR HDR HX
  refine wp_region_any (by kernel_rfl) ?_
  have b_ := Aside0.mk (below_drew1 BT.out)
  have x_ := Aside0.mk (blk_drew B3.out)
  show wpAny _ _ _ _ _ _ _ w5.drew
  (try clear p3_0 p3_1 p3_2 p3_3)
  clear B3 BT
  generalize w5.drew = W0 at x_ b_ ⊢
  have B3 := x_
  have BT := b_
  clear x_ b_
  refine any_inv (n := 12) (T := (true, [([], []), ([0], [0]), ([], []), ([2], [2]), ([], []), ([4], [4]), ([], []), ([6], [6]), ([7], [7]), ([1, 3, 5, 8], [1, 3, 5, 8]), ([], []), ([10, 9, 0, 1, 2, 3, 4, 5, 6, 7, 8, 9, 10], [9, 10])])) rfl (by kernel_rfl) (by decide) (fun b a W => LR W0 g3 A0 c0 l0 a0 a1 a2 A c l A1 c1 ld (b 0) (b 1) (b 2) (b 3) (b 4) (b 5) (b 6) (b 7) (b 8) (b 9) (b 10) (b 11) a W) ?hstep ?hdone _ _ ?hstart
  case hstart => exact ⟨0, rfl, ⟨Below.refl _ _, (fun e => Bool.noConfusion e)⟩⟩
  case hstep =>
    intro i b a W hi hbi hneed hcl hI
    have hcase : i = 0 ∨ i = 1 ∨ i = 2 ∨ i = 3 ∨ i = 4 ∨ i = 5 ∨ i = 6 ∨ i = 7 ∨ i = 8 ∨ i = 9 ∨ i = 10 ∨ i = 11 := by omega
    rcases hcase with rfl | rfl | rfl | rfl | rfl | rfl | rfl | rfl | rfl | rfl | rfl | rfl
    · -- 0
      have z1 : b 1 = false := by
        cases hz : b 1 with
        | false => rfl
        | true =>
          have hq := hcl 1 _ hz rfl 0 (by decide)
          rw [hbi] at hq
          cases hq
      have z9 : b 9 = false := by
        cases hz : b 9 with
        | false => rfl
        | true =>
          have hq := hcl 9 _ hz rfl 1 (by decide)
          rw [z1] at hq
          cases hq
      have z11 : b 11 = false := by
        cases hz : b 11 with
        | false => rfl
        | true =>
          have hq := hcl 11 _ hz rfl 0 (by decide)
          rw [hbi] at hq
          cases hq
      have hpost : ∀ a' W', LR W0 g3 A0 c0 l0 a0 a1 a2 A c l A1 c1 ld true false (b 2) (b 3) (b 4) (b 5) (b 6) (b 7) (b 8) false (b 10) false a' W' → (fun b a W => LR W0 g3 A0 c0 l0 a0 a1 a2 A c l A1 c1 ld (b 0) (b 1) (b 2) (b 3) (b 4) (b 5) (b 6) (b 7) (b 8) (b 9) (b 10) (b 11) a W) (fun j => if j = 0 then true else b j) a' W' := fun a' W' hh => by
        show LR W0 g3 A0 c0 l0 a0 a1 a2 A c l A1 c1 ld true (b 1) (b 2) (b 3) (b 4) (b 5) (b 6) (b 7) (b 8) (b 9) (b 10) (b 11) a' W'
        rw [z1, z9, z11]
        exact hh
      replace hI : LR W0 g3 A0 c0 l0 a0 a1 a2 A c l A1 c1 ld (b 0) (b 1) (b 2) (b 3) (b 4) (b 5) (b 6) (b 7) (b 8) (b 9) (b 10) (b 11) a W := hI
      rw [hbi, z1, z9, z11] at hI
      obtain ⟨g6, rfl, h⟩ := hI
      refine wpOp_step rfl (fun K' hK' => ?_)
      refine event_step (W := W) (w1 := W) (v := ?_) (by rfl) ?_ ?_
      rotate_left
      · (try simp only [aR, cond_true, cond_false])
        go_simp
        first | with_reducible rfl | rfl
      refine hK' _ _ (hpost _ _ ⟨g6, ?_, h⟩)
      show Act.put _ (some 29) _ = _
      simp only [aR, Act.put, List.setIfInBounds_toArray, List.set_cons_zero, List.set_cons_succ, i64_w, i32_w]
      rfl
    · -- 1
      have n0 : b 0 = true := hneed _ rfl 0 (by decide)
      have z9 : b 9 = false := by
        cases hz : b 9 with
        | false => rfl
        | true =>
          have hq := hcl 9 _ hz rfl 1 (by decide)
          rw [hbi] at hq
          cases hq
      have z11 : b 11 = false := by
        cases hz : b 11 with
        | false => rfl
        | true =>
          have hq := hcl 11 _ hz rfl 1 (by decide)
          rw [hbi] at hq
          cases hq
      have hpost : ∀ a' W', LR W0 g3 A0 c0 l0 a0 a1 a2 A c l A1 c1 ld true true (b 2) (b 3) (b 4) (b 5) (b 6) (b 7) (b 8) false (b 10) false a' W' → (fun b a W => LR W0 g3 A0 c0 l0 a0 a1 a2 A c l A1 c1 ld (b 0) (b 1) (b 2) (b 3) (b 4) (b 5) (b 6) (b 7) (b 8) (b 9) (b 10) (b 11) a W) (fun j => if j = 1 then true else b j) a' W' := fun a' W' hh => by
        show LR W0 g3 A0 c0 l0 a0 a1 a2 A c l A1 c1 ld (b 0) true (b 2) (b 3) (b 4) (b 5) (b 6) (b 7) (b 8) (b 9) (b 10) (b 11) a' W'
        rw [n0, z9, z11]
        exact hh
      replace hI : LR W0 g3 A0 c0 l0 a0 a1 a2 A c l A1 c1 ld (b 0) (b 1) (b 2) (b 3) (b 4) (b 5) (b 6) (b 7) (b 8) (b 9) (b 10) (b 11) a W := hI
      rw [hbi, n0, z9, z11] at hI
      obtain ⟨g6, rfl, h⟩ := hI
      refine wpOp_step rfl (fun K' hK' => ?_)
      have hx3 := blk_below B3.out h.hB
      have q0 : W.cell? ⟨g3, 0, none⟩ = some (.int .i64 a0) := blk_cell hx3 0
      have q1 : W.cell? ⟨g3, 1, none⟩ = some (.int .i64 a1) := blk_cell hx3 1
      have q2 : W.cell? ⟨g3, 2, none⟩ = some (.int .i64 a2) := blk_cell hx3 2
      have q3 : W.cell? ⟨g3, 3, none⟩ = some (.slice A l.length c) := blk_cell hx3 3
      refine event_step (W := W) (w1 := W) (v := ?_) (by rfl) ?_ ?_
      rotate_left
      · (try simp only [aR, cond_true, cond_false])
        go_simp
        first | with_reducible rfl | rfl
      refine hK' _ _ (hpost _ _ ⟨g6, ?_, h⟩)
      show Act.put _ (some 30) _ = _
      simp only [aR, Act.put, List.setIfInBounds_toArray, List.set_cons_zero, List.set_cons_succ, i64_w, i32_w]
      rfl
    · -- 2
      have z3 : b 3 = false := by
        cases hz : b 3 with
        | false => rfl
        | true =>
          have hq := hcl 3 _ hz rfl 2 (by decide)
          rw [hbi] at hq
          cases hq
      have z9 : b 9 = false := by
        cases hz : b 9 with
        | false => rfl
        | true =>
          have hq := hcl 9 _ hz rfl 3 (by decide)
          rw [z3] at hq
          cases hq
      have z11 : b 11 = false := by
        cases hz : b 11 with
        | false => rfl
        | true =>
          have hq := hcl 11 _ hz rfl 2 (by decide)
          rw [hbi] at hq
          cases hq
      have hpost : ∀ a' W', LR W0 g3 A0 c0 l0 a0 a1 a2 A c l A1 c1 ld (b 0) (b 1) true false (b 4) (b 5) (b 6) (b 7) (b 8) false (b 10) false a' W' → (fun b a W => LR W0 g3 A0 c0 l0 a0 a1 a2 A c l A1 c1 ld (b 0) (b 1) (b 2) (b 3) (b 4) (b 5) (b 6) (b 7) (b 8) (b 9) (b 10) (b 11) a W) (fun j => if j = 2 then true else b j) a' W' := fun a' W' hh => by
        show LR W0 g3 A0 c0 l0 a0 a1 a2 A c l A1 c1 ld (b 0) (b 1) true (b 3) (b 4) (b 5) (b 6) (b 7) (b 8) (b 9) (b 10) (b 11) a' W'
        rw [z3, z9, z11]
        exact hh
      replace hI : LR W0 g3 A0 c0 l0 a0 a1 a2 A c l A1 c1 ld (b 0) (b 1) (b 2) (b 3) (b 4) (b 5) (b 6) (b 7) (b 8) (b 9) (b 10) (b 11) a W := hI
      rw [hbi, z3, z9, z11] at hI
      obtain ⟨g6, rfl, h⟩ := hI
      refine wpOp_step rfl (fun K' hK' => ?_)
      refine event_step (W := W) (w1 := W) (v := ?_) (by rfl) ?_ ?_
      rotate_left
      · (try simp only [aR, cond_true, cond_false])
        go_simp
        first | with_reducible rfl | rfl
      refine hK' _ _ (hpost _ _ ⟨g6, ?_, h⟩)
      show Act.put _ (some 31) _ = _
      simp only [aR, Act.put, List.setIfInBounds_toArray, List.set_cons_zero, List.set_cons_succ, i64_w, i32_w]
      rfl
    · -- 3
      have n2 : b 2 = true := hneed _ rfl 2 (by decide)
      have z9 : b 9 = false := by
        cases hz : b 9 with
        | false => rfl
        | true =>
          have hq := hcl 9 _ hz rfl 3 (by decide)
          rw [hbi] at hq
          cases hq
      have z11 : b 11 = false := by
        cases hz : b 11 with
        | false => rfl
        | true =>
          have hq := hcl 11 _ hz rfl 3 (by decide)
          rw [hbi] at hq
          cases hq
      have hpost : ∀ a' W', LR W0 g3 A0 c0 l0 a0 a1 a2 A c l A1 c1 ld (b 0) (b 1) true true (b 4) (b 5) (b 6) (b 7) (b 8) false (b 10) false a' W' → (fun b a W => LR W0 g3 A0 c0 l0 a0 a1 a2 A c l A1 c1 ld (b 0) (b 1) (b 2) (b 3) (b 4) (b 5) (b 6) (b 7) (b 8) (b 9) (b 10) (b 11) a W) (fun j => if j = 3 then true else b j) a' W' := fun a' W' hh => by
        show LR W0 g3 A0 c0 l0 a0 a1 a2 A c l A1 c1 ld (b 0) (b 1) (b 2) true (b 4) (b 5) (b 6) (b 7) (b 8) (b 9) (b 10) (b 11) a' W'
        rw [n2, z9, z11]
        exact hh
      replace hI : LR W0 g3 A0 c0 l0 a0 a1 a2 A c l A1 c1 ld (b 0) (b 1) (b 2) (b 3) (b 4) (b 5) (b 6) (b 7) (b 8) (b 9) (b 10) (b 11) a W := hI
      rw [hbi, n2, z9, z11] at hI
      obtain ⟨g6, rfl, h⟩ := hI
      refine wpOp_step rfl (fun K' hK' => ?_)
      have hx3 := blk_below B3.out h.hB
      have q0 : W.cell? ⟨g3, 0, none⟩ = some (.int .i64 a0) := blk_cell hx3 0
      have q1 : W.cell? ⟨g3, 1, none⟩ = some (.int .i64 a1) := blk_cell hx3 1
      have q2 : W.cell? ⟨g3, 2, none⟩ = some (.int .i64 a2) := blk_cell hx3 2
      have q3 : W.cell? ⟨g3, 3, none⟩ = some (.slice A l.length c) := blk_cell hx3 3
      refine event_step (W := W) (w1 := W) (v := ?_) (by rfl) ?_ ?_
      rotate_left
      · (try simp only [aR, cond_true, cond_false])
        go_simp
        first | with_reducible rfl | rfl
      refine hK' _ _ (hpost _ _ ⟨g6, ?_, h⟩)
      show Act.put _ (some 32) _ = _
      simp only [aR, Act.put, List.setIfInBounds_toArray, List.set_cons_zero, List.set_cons_succ, i64_w, i32_w]
      rfl
    · -- 4
      have z5 : b 5 = false := by
        cases hz : b 5 with
        | false => rfl
        | true =>
          have hq := hcl 5 _ hz rfl 4 (by decide)
          rw [hbi] at hq
          cases hq
      have z9 : b 9 = false := by
        cases hz : b 9 with
        | false => rfl
        | true =>
          have hq := hcl 9 _ hz rfl 5 (by decide)
          rw [z5] at hq
          cases hq
      have z11 : b 11 = false := by
        cases hz : b 11 with
        | false => rfl
        | true =>
          have hq := hcl 11 _ hz rfl 4 (by decide)
          rw [hbi] at hq
          cases hq
      have hpost : ∀ a' W', LR W0 g3 A0 c0 l0 a0 a1 a2 A c l A1 c1 ld (b 0) (b 1) (b 2) (b 3) true false (b 6) (b 7) (b 8) false (b 10) false a' W' → (fun b a W => LR W0 g3 A0 c0 l0 a0 a1 a2 A c l A1 c1 ld (b 0) (b 1) (b 2) (b 3) (b 4) (b 5) (b 6) (b 7) (b 8) (b 9) (b 10) (b 11) a W) (fun j => if j = 4 then true else b j) a' W' := fun a' W' hh => by
        show LR W0 g3 A0 c0 l0 a0 a1 a2 A c l A1 c1 ld (b 0) (b 1) (b 2) (b 3) true (b 5) (b 6) (b 7) (b 8) (b 9) (b 10) (b 11) a' W'
        rw [z5, z9, z11]
        exact hh
      replace hI : LR W0 g3 A0 c0 l0 a0 a1 a2 A c l A1 c1 ld (b 0) (b 1) (b 2) (b 3) (b 4) (b 5) (b 6) (b 7) (b 8) (b 9) (b 10) (b 11) a W := hI
      rw [hbi, z5, z9, z11] at hI
      obtain ⟨g6, rfl, h⟩ := hI
      refine wpOp_step rfl (fun K' hK' => ?_)
      refine event_step (W := W) (w1 := W) (v := ?_) (by rfl) ?_ ?_
      rotate_left
      · (try simp only [aR, cond_true, cond_false])
        go_simp
        first | with_reducible rfl | rfl
      refine hK' _ _ (hpost _ _ ⟨g6, ?_, h⟩)
      show Act.put _ (some 33) _ = _
      simp only [aR, Act.put, List.setIfInBounds_toArray, List.set_cons_zero, List.set_cons_succ, i64_w, i32_w]
      rfl
    · -- 5
      have n4 : b 4 = true := hneed _ rfl 4 (by decide)
      have z9 : b 9 = false := by
        cases hz : b 9 with
        | false => rfl
        | true =>
          have hq := hcl 9 _ hz rfl 5 (by decide)
          rw [hbi] at hq
          cases hq
      have z11 : b 11 = false := by
        cases hz : b 11 with
        | false => rfl
        | true =>
          have hq := hcl 11 _ hz rfl 5 (by decide)
          rw [hbi] at hq
          cases hq
      have hpost : ∀ a' W', LR W0 g3 A0 c0 l0 a0 a1 a2 A c l A1 c1 ld (b 0) (b 1) (b 2) (b 3) true true (b 6) (b 7) (b 8) false (b 10) false a' W' → (fun b a W => LR W0 g3 A0 c0 l0 a0 a1 a2 A c l A1 c1 ld (b 0) (b 1) (b 2) (b 3) (b 4) (b 5) (b 6) (b 7) (b 8) (b 9) (b 10) (b 11) a W) (fun j => if j = 5 then true else b j) a' W' := fun a' W' hh => by
        show LR W0 g3 A0 c0 l0 a0 a1 a2 A c l A1 c1 ld (b 0) (b 1) (b 2) (b 3) (b 4) true (b 6) (b 7) (b 8) (b 9) (b 10) (b 11) a' W'
        rw [n4, z9, z11]
        exact hh
      replace hI : LR W0 g3 A0 c0 l0 a0 a1 a2 A c l A1 c1 ld (b 0) (b 1) (b 2) (b 3) (b 4) (b 5) (b 6) (b 7) (b 8) (b 9) (b 10) (b 11) a W := hI
      rw [hbi, n4, z9, z11] at hI
      obtain ⟨g6, rfl, h⟩ := hI
      refine wpOp_step rfl (fun K' hK' => ?_)
      have hx3 := blk_below B3.out h.hB
      have q0 : W.cell? ⟨g3, 0, none⟩ = some (.int .i64 a0) := blk_cell hx3 0
      have q1 : W.cell? ⟨g3, 1, none⟩ = some (.int .i64 a1) := blk_cell hx3 1
      have q2 : W.cell? ⟨g3, 2, none⟩ = some (.int .i64 a2) := blk_cell hx3 2
      have q3 : W.cell? ⟨g3, 3, none⟩ = some (.slice A l.length c) := blk_cell hx3 3
      refine event_step (W := W) (w1 := W) (v := ?_) (by rfl) ?_ ?_
      rotate_left
      · (try simp only [aR, cond_true, cond_false])
        go_simp
        first | with_reducible rfl | rfl
      refine hK' _ _ (hpost _ _ ⟨g6, ?_, h⟩)
      show Act.put _ (some 34) _ = _
      simp only [aR, Act.put, List.setIfInBounds_toArray, List.set_cons_zero, List.set_cons_succ, i64_w, i32_w]
      rfl
    · -- 6
      have z7 : b 7 = false := by
        cases hz : b 7 with
        | false => rfl
        | true =>
          have hq := hcl 7 _ hz rfl 6 (by decide)
          rw [hbi] at hq
          cases hq
      have z8 : b 8 = false := by
        cases hz : b 8 with
        | false => rfl
        | true =>
          have hq := hcl 8 _ hz rfl 7 (by decide)
          rw [z7] at hq
          cases hq
      have z9 : b 9 = false := by
        cases hz : b 9 with
        | false => rfl
        | true =>
          have hq := hcl 9 _ hz rfl 8 (by decide)
          rw [z8] at hq
          cases hq
      have z11 : b 11 = false := by
        cases hz : b 11 with
        | false => rfl
        | true =>
          have hq := hcl 11 _ hz rfl 6 (by decide)
          rw [hbi] at hq
          cases hq
      have hpost : ∀ a' W', LR W0 g3 A0 c0 l0 a0 a1 a2 A c l A1 c1 ld (b 0) (b 1) (b 2) (b 3) (b 4) (b 5) true false false false (b 10) false a' W' → (fun b a W => LR W0 g3 A0 c0 l0 a0 a1 a2 A c l A1 c1 ld (b 0) (b 1) (b 2) (b 3) (b 4) (b 5) (b 6) (b 7) (b 8) (b 9) (b 10) (b 11) a W) (fun j => if j = 6 then true else b j) a' W' := fun a' W' hh => by
        show LR W0 g3 A0 c0 l0 a0 a1 a2 A c l A1 c1 ld (b 0) (b 1) (b 2) (b 3) (b 4) (b 5) true (b 7) (b 8) (b 9) (b 10) (b 11) a' W'
        rw [z7, z8, z9, z11]
        exact hh
      replace hI : LR W0 g3 A0 c0 l0 a0 a1 a2 A c l A1 c1 ld (b 0) (b 1) (b 2) (b 3) (b 4) (b 5) (b 6) (b 7) (b 8) (b 9) (b 10) (b 11) a W := hI
      rw [hbi, z7, z8, z9, z11] at hI
      obtain ⟨g6, rfl, h⟩ := hI
      refine wpOp_step rfl (fun K' hK' => ?_)
      refine event_step (W := W) (w1 := W) (v := ?_) (by rfl) ?_ ?_
      rotate_left
      · (try simp only [aR, cond_true, cond_false])
        go_simp
        first | with_reducible rfl | rfl
      refine hK' _ _ (hpost _ _ ⟨g6, ?_, h⟩)
      show Act.put _ (some 35) _ = _
      simp only [aR, Act.put, List.setIfInBounds_toArray, List.set_cons_zero, List.set_cons_succ, i64_w, i32_w]
      rfl
    · -- 7
      have n6 : b 6 = true := hneed _ rfl 6 (by decide)
      have z8 : b 8 = false := by
        cases hz : b 8 with
        | false => rfl
        | true =>
          have hq := hcl 8 _ hz rfl 7 (by decide)
          rw [hbi] at hq
          cases hq
      have z9 : b 9 = false := by
        cases hz : b 9 with
        | false => rfl
        | true =>
          have hq := hcl 9 _ hz rfl 8 (by decide)
          rw [z8] at hq
          cases hq
      have z11 : b 11 = false := by
        cases hz : b 11 with
        | false => rfl
        | true =>
          have hq := hcl 11 _ hz rfl 7 (by decide)
          rw [hbi] at hq
          cases hq
      have hpost : ∀ a' W', LR W0 g3 A0 c0 l0 a0 a1 a2 A c l A1 c1 ld (b 0) (b 1) (b 2) (b 3) (b 4) (b 5) true true false false (b 10) false a' W' → (fun b a W => LR W0 g3 A0 c0 l0 a0 a1 a2 A c l A1 c1 ld (b 0) (b 1) (b 2) (b 3) (b 4) (b 5) (b 6) (b 7) (b 8) (b 9) (b 10) (b 11) a W) (fun j => if j = 7 then true else b j) a' W' := fun a' W' hh => by
        show LR W0 g3 A0 c0 l0 a0 a1 a2 A c l A1 c1 ld (b 0) (b 1) (b 2) (b 3) (b 4) (b 5) (b 6) true (b 8) (b 9) (b 10) (b 11) a' W'
        rw [n6, z8, z9, z11]
        exact hh
      replace hI : LR W0 g3 A0 c0 l0 a0 a1 a2 A c l A1 c1 ld (b 0) (b 1) (b 2) (b 3) (b 4) (b 5) (b 6) (b 7) (b 8) (b 9) (b 10) (b 11) a W := hI
      rw [hbi, n6, z8, z9, z11] at hI
      obtain ⟨g6, rfl, h⟩ := hI
      refine wpOp_step rfl (fun K' hK' => ?_)
      have hx3 := blk_below B3.out h.hB
      have q0 : W.cell? ⟨g3, 0, none⟩ = some (.int .i64 a0) := blk_cell hx3 0
      have q1 : W.cell? ⟨g3, 1, none⟩ = some (.int .i64 a1) := blk_cell hx3 1
      have q2 : W.cell? ⟨g3, 2, none⟩ = some (.int .i64 a2) := blk_cell hx3 2
      have q3 : W.cell? ⟨g3, 3, none⟩ = some (.slice A l.length c) := blk_cell hx3 3
      refine event_step (W := W) (w1 := W) (v := ?_) (by rfl) ?_ ?_
      rotate_left
      · (try simp only [aR, cond_true, cond_false])
        go_simp
        first | with_reducible rfl | rfl
      refine hK' _ _ (hpost _ _ ⟨g6, ?_, h⟩)
      show Act.put _ (some 36) _ = _
      simp only [aR, Act.put, List.setIfInBounds_toArray, List.set_cons_zero, List.set_cons_succ, i64_w, i32_w]
      rfl
    · -- 8
      have n7 : b 7 = true := hneed _ rfl 7 (by decide)
      have n6 : b 6 = true := hcl 7 _ n7 rfl 6 (by decide)
      have z9 : b 9 = false := by
        cases hz : b 9 with
        | false => rfl
        | true =>
          have hq := hcl 9 _ hz rfl 8 (by decide)
          rw [hbi] at hq
          cases hq
      have z11 : b 11 = false := by
        cases hz : b 11 with
        | false => rfl
        | true =>
          have hq := hcl 11 _ hz rfl 8 (by decide)
          rw [hbi] at hq
          cases hq
      have hpost : ∀ a' W', LR W0 g3 A0 c0 l0 a0 a1 a2 A c l A1 c1 ld (b 0) (b 1) (b 2) (b 3) (b 4) (b 5) true true true false (b 10) false a' W' → (fun b a W => LR W0 g3 A0 c0 l0 a0 a1 a2 A c l A1 c1 ld (b 0) (b 1) (b 2) (b 3) (b 4) (b 5) (b 6) (b 7) (b 8) (b 9) (b 10) (b 11) a W) (fun j => if j = 8 then true else b j) a' W' := fun a' W' hh => by
        show LR W0 g3 A0 c0 l0 a0 a1 a2 A c l A1 c1 ld (b 0) (b 1) (b 2) (b 3) (b 4) (b 5) (b 6) (b 7) true (b 9) (b 10) (b 11) a' W'
        rw [n6, n7, z9, z11]
        exact hh
      replace hI : LR W0 g3 A0 c0 l0 a0 a1 a2 A c l A1 c1 ld (b 0) (b 1) (b 2) (b 3) (b 4) (b 5) (b 6) (b 7) (b 8) (b 9) (b 10) (b 11) a W := hI
      rw [hbi, n6, n7, z9, z11] at hI
      obtain ⟨g6, rfl, h⟩ := hI
      refine wpOp_step rfl (fun K' hK' => ?_)
      have hcut := HCUT.out W
      refine event_step (W := W) (w1 := W) (v := (.slice A1 ld.length c1)) (by rfl) ?_ ?_
      · (try simp only [aR, cond_true, cond_false])
        first | exact hcut | (go_simp; done) | (go_simp; exact hcut) | (simp only [hcut]; rfl)
      refine hK' _ _ (hpost _ _ ⟨g6, ?_, h⟩)
      show Act.put _ (some 37) _ = _
      simp only [aR, Act.put, List.setIfInBounds_toArray, List.set_cons_zero, List.set_cons_succ, i64_w, i32_w]
      rfl
    · -- 9
      have n1 : b 1 = true := hneed _ rfl 1 (by decide)
      have n3 : b 3 = true := hneed _ rfl 3 (by decide)
      have n5 : b 5 = true := hneed _ rfl 5 (by decide)
      have n8 : b 8 = true := hneed _ rfl 8 (by decide)
      have n0 : b 0 = true := hcl 1 _ n1 rfl 0 (by decide)
      have n2 : b 2 = true := hcl 3 _ n3 rfl 2 (by decide)
      have n4 : b 4 = true := hcl 5 _ n5 rfl 4 (by decide)
      have n7 : b 7 = true := hcl 8 _ n8 rfl 7 (by decide)
      have n6 : b 6 = true := hcl 7 _ n7 rfl 6 (by decide)
      have z11 : b 11 = false := by
        cases hz : b 11 with
        | false => rfl
        | true =>
          have hq := hcl 11 _ hz rfl 9 (by decide)
          rw [hbi] at hq
          cases hq
      have hpost : ∀ a' W', LR W0 g3 A0 c0 l0 a0 a1 a2 A c l A1 c1 ld true true true true true true true true true true (b 10) false a' W' → (fun b a W => LR W0 g3 A0 c0 l0 a0 a1 a2 A c l A1 c1 ld (b 0) (b 1) (b 2) (b 3) (b 4) (b 5) (b 6) (b 7) (b 8) (b 9) (b 10) (b 11) a W) (fun j => if j = 9 then true else b j) a' W' := fun a' W' hh => by
        show LR W0 g3 A0 c0 l0 a0 a1 a2 A c l A1 c1 ld (b 0) (b 1) (b 2) (b 3) (b 4) (b 5) (b 6) (b 7) (b 8) true (b 10) (b 11) a' W'
        rw [n0, n1, n2, n3, n4, n5, n6, n7, n8, z11]
        exact hh
      replace hI : LR W0 g3 A0 c0 l0 a0 a1 a2 A c l A1 c1 ld (b 0) (b 1) (b 2) (b 3) (b 4) (b 5) (b 6) (b 7) (b 8) (b 9) (b 10) (b 11) a W := hI
      rw [hbi, n0, n1, n2, n3, n4, n5, n6, n7, n8, z11] at hI
      obtain ⟨g6, rfl, h⟩ := hI
      refine wpOp_step rfl (fun K' hK' => ?_)
      refine event_step (W := W) (w1 := W) (v := (.agg #[(.int .i64 a0), (.int .i64 a1), (.int .i64 a2), (.slice A1 ld.length c1)])) (by rfl) ?_ ?_
      · (try simp only [aR, cond_true, cond_false])
        go_simp
        (try rfl)
      refine hK' _ _ (hpost _ _ ⟨g6, ?_, h⟩)
      show Act.put _ (some 38) _ = _
      simp only [aR, Act.put, List.setIfInBounds_toArray, List.set_cons_zero, List.set_cons_succ, i64_w, i32_w]
      rfl
    · -- 10
      have z11 : b 11 = false := by
        cases hz : b 11 with
        | false => rfl
        | true =>
          have hq := hcl 11 _ hz rfl 10 (by decide)
          rw [hbi] at hq
          cases hq
      have hpost : ∀ a' W', LR W0 g3 A0 c0 l0 a0 a1 a2 A c l A1 c1 ld (b 0) (b 1) (b 2) (b 3) (b 4) (b 5) (b 6) (b 7) (b 8) (b 9) true false a' W' → (fun b a W => LR W0 g3 A0 c0 l0 a0 a1 a2 A c l A1 c1 ld (b 0) (b 1) (b 2) (b 3) (b 4) (b 5) (b 6) (b 7) (b 8) (b 9) (b 10) (b 11) a W) (fun j => if j = 10 then true else b j) a' W' := fun a' W' hh => by
        show LR W0 g3 A0 c0 l0 a0 a1 a2 A c l A1 c1 ld (b 0) (b 1) (b 2) (b 3) (b 4) (b 5) (b 6) (b 7) (b 8) (b 9) true (b 11) a' W'
        rw [z11]
        exact hh
      replace hI : LR W0 g3 A0 c0 l0 a0 a1 a2 A c l A1 c1 ld (b 0) (b 1) (b 2) (b 3) (b 4) (b 5) (b 6) (b 7) (b 8) (b 9) (b 10) (b 11) a W := hI
      rw [hbi, z11] at hI
      obtain ⟨g6, rfl, h⟩ := hI
      refine wpOp_step rfl (fun K' hK' => ?_)
      refine box_step ?hg (N := 6) ?hd (cs := #[(.int .i64 0), (.int .i64 0), (.int .i64 0), (.slice none 0 0)]) (t := 24) ?hr ?_
      case hd => rfl
      case hg => rfl
      case hr => first | (go_simp; done) | (go_simp; rfl)
      intro gb hgb W' hbox hb
      have hlt := h.hB.size
      refine hK' _ _ (hpost _ _ ⟨gb, ?_, ⟨below_step h.hB hb, fun _ => ⟨by omega, hbox⟩⟩⟩)
      show Act.put _ (some 6) _ = _
      simp only [aR, Act.put, List.setIfInBounds_toArray, List.set_cons_zero, List.set_cons_succ]
      rfl
    · -- 11
      have n0 : b 0 = true := hneed _ rfl 0 (by decide)
      have n1 : b 1 = true := hneed _ rfl 1 (by decide)
      have n2 : b 2 = true := hneed _ rfl 2 (by decide)
      have n3 : b 3 = true := hneed _ rfl 3 (by decide)
      have n4 : b 4 = true := hneed _ rfl 4 (by decide)
      have n5 : b 5 = true := hneed _ rfl 5 (by decide)
      have n6 : b 6 = true := hneed _ rfl 6 (by decide)
      have n7 : b 7 = true := hneed _ rfl 7 (by decide)
      have n8 : b 8 = true := hneed _ rfl 8 (by decide)
      have n9 : b 9 = true := hneed _ rfl 9 (by decide)
      have n10 : b 10 = true := hneed _ rfl 10 (by decide)
      have hpost : ∀ a' W', LR W0 g3 A0 c0 l0 a0 a1 a2 A c l A1 c1 ld true true true true true true true true true true true true a' W' → (fun b a W => LR W0 g3 A0 c0 l0 a0 a1 a2 A c l A1 c1 ld (b 0) (b 1) (b 2) (b 3) (b 4) (b 5) (b 6) (b 7) (b 8) (b 9) (b 10) (b 11) a W) (fun j => if j = 11 then true else b j) a' W' := fun a' W' hh => by
        show LR W0 g3 A0 c0 l0 a0 a1 a2 A c l A1 c1 ld (b 0) (b 1) (b 2) (b 3) (b 4) (b 5) (b 6) (b 7) (b 8) (b 9) (b 10) true a' W'
        rw [n0, n1, n2, n3, n4, n5, n6, n7, n8, n9, n10]
        exact hh
      replace hI : LR W0 g3 A0 c0 l0 a0 a1 a2 A c l A1 c1 ld (b 0) (b 1) (b 2) (b 3) (b 4) (b 5) (b 6) (b 7) (b 8) (b 9) (b 10) (b 11) a W := hI
      rw [hbi, n0, n1, n2, n3, n4, n5, n6, n7, n8, n9, n10] at hI
      obtain ⟨g6, rfl, h⟩ := hI
      refine wpOp_step rfl (fun K' hK' => ?_)
      obtain ⟨hg6, hbx⟩ := h.h6 rfl
      replace hbx : W.heap[g6]? = some (.cells #[(.int .i64 0), (.int .i64 0), (.int .i64 0), (.slice none 0 0)] 24 (0, 0)) := hbx
      have q0 : W.cell? ⟨g6, 0, none⟩ = some (.int .i64 0) := blk_cell hbx 0
      have f0 := blk_frozen hbx 0
      have q1 : W.cell? ⟨g6, 1, none⟩ = some (.int .i64 0) := blk_cell hbx 1
      have f1 := blk_frozen hbx 1
      have q2 : W.cell? ⟨g6, 2, none⟩ = some (.int .i64 0) := blk_cell hbx 2
      have f2 := blk_frozen hbx 2
      have q3 : W.cell? ⟨g6, 3, none⟩ = some (.slice none 0 0) := blk_cell hbx 3
      have f3 := blk_frozen hbx 3
      refine skip_ (w1 := ((((W.setCell ⟨g6, 0, none⟩ (.int .i64 a0)).setCell ⟨g6, 1, none⟩ (.int .i64 a1)).setCell ⟨g6, 2, none⟩ (.int .i64 a2)).setCell ⟨g6, 3, none⟩ (.slice A1 ld.length c1))) (by rfl) rfl ?_ ?_
      · (try simp only [aR, cond_true, cond_false])
        go_simp
        (try rfl)
      refine hK' _ _ (hpost _ _ ⟨g6, rfl, ⟨(below_set (j := 3) (v := (.slice A1 ld.length c1)) (below_set (j := 2) (v := (.int .i64 a2)) (below_set (j := 1) (v := (.int .i64 a1)) (below_set (j := 0) (v := (.int .i64 a0)) h.hB hg6) hg6) hg6) hg6), fun _ => ⟨hg6, (blk_put (cs' := #[(.int .i64 a0), (.int .i64 a1), (.int .i64 a2), (.slice A1 ld.length c1)]) (blk_put (cs' := #[(.int .i64 a0), (.int .i64 a1), (.int .i64 a2), (.slice none 0 0)]) (blk_put (cs' := #[(.int .i64 a0), (.int .i64 a1), (.int .i64 0), (.slice none 0 0)]) (blk_put (cs' := #[(.int .i64 a0), (.int .i64 0), (.int .i64 0), (.slice none 0 0)]) hbx 0 (.int .i64 a0) rfl) 1 (.int .i64 a1) rfl) 2 (.int .i64 a2) rfl) 3 (.slice A1 ld.length c1) rfl)⟩⟩⟩)
  case hdone =>
    intro b a W1 hall hI
    replace hI : LR W0 g3 A0 c0 l0 a0 a1 a2 A c l A1 c1 ld (b 0) (b 1) (b 2) (b 3) (b 4) (b 5) (b 6) (b 7) (b 8) (b 9) (b 10) (b 11) a W1 := hI
    rw [hall 0 (by decide), hall 1 (by decide), hall 2 (by decide), hall 3 (by decide), hall 4 (by decide), hall 5 (by decide), hall 6 (by decide), hall 7 (by decide), hall 8 (by decide), hall 9 (by decide), hall 10 (by decide), hall 11 (by decide)] at hI
    obtain ⟨g6, rfl, h⟩ := hI
    simp only [aR, cond_true]
    have B6 := Aside0.mk (show W1.heap[g6]? = some (.cells #[(.int .i64 a0), (.int .i64 a1), (.int .i64 a2), (.slice A1 ld.length c1)] 24 (0, 0)) from (h.h6 rfl).2)
    have hb := h.hB
    clear h hall
    have t_ := Aside0.mk (below_step BT.out hb)
    have t3_ := Aside0.mk (blk_below B3.out hb)
    (try clear p3_0 p3_1 p3_2 p3_3)
    clear BT B3
    have BT := t_
    have B3 := t3_
    clear t_ t3_
    clear hb
    have p3_0 : W1.cell? ⟨g3, 0, none⟩ = some (.int .i64 a0) := blk_cell B3.out 0
    have p3_1 : W1.cell? ⟨g3, 1, none⟩ = some (.int .i64 a1) := blk_cell B3.out 1
    have p3_2 : W1.cell? ⟨g3, 2, none⟩ = some (.int .i64 a2) := blk_cell B3.out 2
    have p3_3 : W1.cell? ⟨g3, 3, none⟩ = some (.slice A l.length c) := blk_cell B3.out 3
    have p6_0 : W1.cell? ⟨g6, 0, none⟩ = some (.int .i64 a0) := blk_cell B6.out 0
    have p6_1 : W1.cell? ⟨g6, 1, none⟩ = some (.int .i64 a1) := blk_cell B6.out 1
    have p6_2 : W1.cell? ⟨g6, 2, none⟩ = some (.int .i64 a2) := blk_cell B6.out 2
    have p6_3 : W1.cell? ⟨g6, 3, none⟩ = some (.slice A1 ld.length c1) := blk_cell B6.out 3
    go_upto_region 10 with (first | ((with_reducible refine gate_dst (N := 7) rfl ?_); refine box_event (N := 7) ?hg ?hd (cs := #[(.int .i64 0), (.int .i64 0), (.int .i64 0), (.slice none 0 0)]) (t := 24) ?hr ?_; (case hd => rfl); (case hg => rfl); (case hr => first | (go_simp; done) | (go_simp; rfl)); intro g7 hg v7 hbox hb; have GE := Aside0.mk (hg : _ = _); have X := Aside0.mk hbox; have HBX := Aside0.mk hb; skip; have z0 : v7.cell? ⟨g7, 0, none⟩ = some (.int .i64 0) := blk_cell hbox 0; have f0 := blk_frozen hbox 0; have z1 : v7.cell? ⟨g7, 1, none⟩ = some (.int .i64 0) := blk_cell hbox 1; have f1 := blk_frozen hbox 1; have z2 : v7.cell? ⟨g7, 2, none⟩ = some (.int .i64 0) := blk_cell hbox 2; have f2 := blk_frozen hbox 2; have z3 : v7.cell? ⟨g7, 3, none⟩ = some (.slice none 0 0) := blk_cell hbox 3; have f3 := blk_frozen hbox 3; have y3_0 : v7.cell? ⟨g3, 0, none⟩ = some (.int .i64 a0) := blk_cell (blk_below B3.out hb) 0; have y3_1 : v7.cell? ⟨g3, 1, none⟩ = some (.int .i64 a1) := blk_cell (blk_below B3.out hb) 1; have y3_2 : v7.cell? ⟨g3, 2, none⟩ = some (.int .i64 a2) := blk_cell (blk_below B3.out hb) 2; have y3_3 : v7.cell? ⟨g3, 3, none⟩ = some (.slice A l.length c) := blk_cell (blk_below B3.out hb) 3; have y6_0 : v7.cell? ⟨g6, 0, none⟩ = some (.int .i64 a0) := blk_cell (blk_below B6.out hb) 0; have y6_1 : v7.cell? ⟨g6, 1, none⟩ = some (.int .i64 a1) := blk_cell (blk_below B6.out hb) 1; have y6_2 : v7.cell? ⟨g6, 2, none⟩ = some (.int .i64 a2) := blk_cell (blk_below B6.out hb) 2; have y6_3 : v7.cell? ⟨g6, 3, none⟩ = some (.slice A1 ld.length c1) := blk_cell (blk_below B6.out hb) 3; clear hbox hb hg) | fail)
    have hb := (below_set (j := 3) (v := (.slice A l.length c)) (below_set (j := 2) (v := (.int .i64 a2)) (below_set (j := 1) (v := (.int .i64 a0)) (below_set (j := 0) (v := (.int .i64 a0)) HBX.out (Nat.le_of_eq GE.out.symm)) (Nat.le_of_eq GE.out.symm)) (Nat.le_of_eq GE.out.symm)) (Nat.le_of_eq GE.out.symm))
    have x_ := Aside0.mk (blk_put (cs' := #[(.int .i64 a0), (.int .i64 a0), (.int .i64 a2), (.slice A l.length c)]) (blk_put (cs' := #[(.int .i64 a0), (.int .i64 a0), (.int .i64 a2), (.slice none 0 0)]) (blk_put (cs' := #[(.int .i64 a0), (.int .i64 a0), (.int .i64 0), (.slice none 0 0)]) (blk_put (cs' := #[(.int .i64 a0), (.int .i64 0), (.int .i64 0), (.slice none 0 0)]) X.out 0 (.int .i64 a0) rfl) 1 (.int .i64 a0) rfl) 2 (.int .i64 a2) rfl) 3 (.slice A l.length c) rfl)
    clear z0 z1 z2 z3 f0 f1 f2 f3 X HBX GE
    (try clear y3_0 y3_1 y3_2 y3_3 y6_0 y6_1 y6_2 y6_3)
    generalize ((((v7.setCell ⟨g7, 0, none⟩ (.int .i64 a0)).setCell ⟨g7, 1, none⟩ (.int .i64 a0)).setCell ⟨g7, 2, none⟩ (.int .i64 a2)).setCell ⟨g7, 3, none⟩ (.slice A l.length c)) = u7 at x_ hb ⊢
    have t_ := Aside0.mk (below_step BT.out hb)
    have t3_ := Aside0.mk (blk_below B3.out hb)
    have t6_ := Aside0.mk (blk_below B6.out hb)
    (try clear p3_0 p3_1 p3_2 p3_3 p6_0 p6_1 p6_2 p6_3)
    clear BT B3 B6
    have BT := t_
    have B3 := t3_
    have B6 := t6_
    clear t_ t3_ t6_
    have B7 := x_
    clear x_ hb
    have p3_0 : u7.cell? ⟨g3, 0, none⟩ = some (.int .i64 a0) := blk_cell B3.out 0
    have p3_1 : u7.cell? ⟨g3, 1, none⟩ = some (.int .i64 a1) := blk_cell B3.out 1
    have p3_2 : u7.cell? ⟨g3, 2, none⟩ = some (.int .i64 a2) := blk_cell B3.out 2
    have p3_3 : u7.cell? ⟨g3, 3, none⟩ = some (.slice A l.length c) := blk_cell B3.out 3
    have p6_0 : u7.cell? ⟨g6, 0, none⟩ = some (.int .i64 a0) := blk_cell B6.out 0
    have p6_1 : u7.cell? ⟨g6, 1, none⟩ = some (.int .i64 a1) := blk_cell B6.out 1
    have p6_2 : u7.cell? ⟨g6, 2, none⟩ = some (.int .i64 a2) := blk_cell B6.out 2
    have p6_3 : u7.cell? ⟨g6, 3, none⟩ = some (.slice A1 ld.length c1) := blk_cell B6.out 3
    have p7_0 : u7.cell? ⟨g7, 0, none⟩ = some (.int .i64 a0) := blk_cell B7.out 0
    have p7_1 : u7.cell? ⟨g7, 1, none⟩ = some (.int .i64 a0) := blk_cell B7.out 1
    have p7_2 : u7.cell? ⟨g7, 2, none⟩ = some (.int .i64 a2) := blk_cell B7.out 2
    have p7_3 : u7.cell? ⟨g7, 3, none⟩ = some (.slice A l.length c) := blk_cell B7.out 3
    go_upto_region 11 with (first | ((with_reducible refine gate_dst (N := 8) rfl ?_); refine box_event (N := 8) ?hg ?hd (cs := #[(.int .i64 0), (.int .i64 0), (.int .i64 0), (.slice none 0 0)]) (t := 24) ?hr ?_; (case hd => rfl); (case hg => rfl); (case hr => first | (go_simp; done) | (go_simp; rfl)); intro g8 hg v8 hbox hb; have GE := Aside0.mk (hg : _ = _); have X := Aside0.mk hbox; have HBX := Aside0.mk hb; skip; have z0 : v8.cell? ⟨g8, 0, none⟩ = some (.int .i64 0) := blk_cell hbox 0; have f0 := blk_frozen hbox 0; have z1 : v8.cell? ⟨g8, 1, none⟩ = some (.int .i64 0) := blk_cell hbox 1; have f1 := blk_frozen hbox 1; have z2 : v8.cell? ⟨g8, 2, none⟩ = some (.int .i64 0) := blk_cell hbox 2; have f2 := blk_frozen hbox 2; have z3 : v8.cell? ⟨g8, 3, none⟩ = some (.slice none 0 0) := blk_cell hbox 3; have f3 := blk_frozen hbox 3; have y3_0 : v8.cell? ⟨g3, 0, none⟩ = some (.int .i64 a0) := blk_cell (blk_below B3.out hb) 0; have y3_1 : v8.cell? ⟨g3, 1, none⟩ = some (.int .i64 a1) := blk_cell (blk_below B3.out hb) 1; have y3_2 : v8.cell? ⟨g3, 2, none⟩ = some (.int .i64 a2) := blk_cell (blk_below B3.out hb) 2; have y3_3 : v8.cell? ⟨g3, 3, none⟩ = some (.slice A l.length c) := blk_cell (blk_below B3.out hb) 3; have y6_0 : v8.cell? ⟨g6, 0, none⟩ = some (.int .i64 a0) := blk_cell (blk_below B6.out hb) 0; have y6_1 : v8.cell? ⟨g6, 1, none⟩ = some (.int .i64 a1) := blk_cell (blk_below B6.out hb) 1; have y6_2 : v8.cell? ⟨g6, 2, none⟩ = some (.int .i64 a2) := blk_cell (blk_below B6.out hb) 2; have y6_3 : v8.cell? ⟨g6, 3, none⟩ = some (.slice A1 ld.length c1) := blk_cell (blk_below B6.out hb) 3; have y7_0 : v8.cell? ⟨g7, 0, none⟩ = some (.int .i64 a0) := blk_cell (blk_below B7.out hb) 0; have y7_1 : v8.cell? ⟨g7, 1, none⟩ = some (.int .i64 a0) := blk_cell (blk_below B7.out hb) 1; have y7_2 : v8.cell? ⟨g7, 2, none⟩ = some (.int .i64 a2) := blk_cell (blk_below B7.out hb) 2; have y7_3 : v8.cell? ⟨g7, 3, none⟩ = some (.slice A l.length c) := blk_cell (blk_below B7.out hb) 3; clear hbox hb hg) | fail)
    have hb := (below_set (j := 3) (v := (.slice A l.length c)) (below_set (j := 2) (v := (.int .i64 (wrap64 (a0 + 1)))) (below_set (j := 1) (v := (.int .i64 a1)) (below_set (j := 0) (v := (.int .i64 a0)) HBX.out (Nat.le_of_eq GE.out.symm)) (Nat.le_of_eq GE.out.symm)) (Nat.le_of_eq GE.out.symm)) (Nat.le_of_eq GE.out.symm))
    have x_ := Aside0.mk (blk_put (cs' := #[(.int .i64 a0), (.int .i64 a1), (.int .i64 (wrap64 (a0 + 1))), (.slice A l.length c)]) (blk_put (cs' := #[(.int .i64 a0), (.int .i64 a1), (.int .i64 (wrap64 (a0 + 1))), (.slice none 0 0)]) (blk_put (cs' := #[(.int .i64 a0), (.int .i64 a1), (.int .i64 0), (.slice none 0 0)]) (blk_put (cs' := #[(.int .i64 a0), (.int .i64 0), (.int .i64 0), (.slice none 0 0)]) X.out 0 (.int .i64 a0) rfl) 1 (.int .i64 a1) rfl) 2 (.int .i64 (wrap64 (a0 + 1))) rfl) 3 (.slice A l.length c) rfl)
    clear z0 z1 z2 z3 f0 f1 f2 f3 X HBX GE
    (try clear y3_0 y3_1 y3_2 y3_3 y6_0 y6_1 y6_2 y6_3 y7_0 y7_1 y7_2 y7_3)
    generalize ((((v8.setCell ⟨g8, 0, none⟩ (.int .i64 a0)).setCell ⟨g8, 1, none⟩ (.int .i64 a1)).setCell ⟨g8, 2, none⟩ (.int .i64 (wrap64 (a0 + 1)))).setCell ⟨g8, 3, none⟩ (.slice A l.length c)) = u8 at x_ hb ⊢
    have t_ := Aside0.mk (below_step BT.out hb)
    have t3_ := Aside0.mk (blk_below B3.out hb)
    have t6_ := Aside0.mk (blk_below B6.out hb)
    have t7_ := Aside0.mk (blk_below B7.out hb)
    (try clear p3_0 p3_1 p3_2 p3_3 p6_0 p6_1 p6_2 p6_3 p7_0 p7_1 p7_2 p7_3)
    clear BT B3 B6 B7
    have BT := t_
    have B3 := t3_
    have B6 := t6_
    have B7 := t7_
    clear t_ t3_ t6_ t7_
    have B8 := x_
    clear x_ hb
    have p3_0 : u8.cell? ⟨g3, 0, none⟩ = some (.int .i64 a0) := blk_cell B3.out 0
    have p3_1 : u8.cell? ⟨g3, 1, none⟩ = some (.int .i64 a1) := blk_cell B3.out 1
    have p3_2 : u8.cell? ⟨g3, 2, none⟩ = some (.int .i64 a2) := blk_cell B3.out 2
    have p3_3 : u8.cell? ⟨g3, 3, none⟩ = some (.slice A l.length c) := blk_cell B3.out 3
    have p6_0 : u8.cell? ⟨g6, 0, none⟩ = some (.int .i64 a0) := blk_cell B6.out 0
    have p6_1 : u8.cell? ⟨g6, 1, none⟩ = some (.int .i64 a1) := blk_cell B6.out 1
    have p6_2 : u8.cell? ⟨g6, 2, none⟩ = some (.int .i64 a2) := blk_cell B6.out 2
    have p6_3 : u8.cell? ⟨g6, 3, none⟩ = some (.slice A1 ld.length c1) := blk_cell B6.out 3
    have p7_0 : u8.cell? ⟨g7, 0, none⟩ = some (.int .i64 a0) := blk_cell B7.out 0
    have p7_1 : u8.cell? ⟨g7, 1, none⟩ = some (.int .i64 a0) := blk_cell B7.out 1
    have p7_2 : u8.cell? ⟨g7, 2, none⟩ = some (.int .i64 a2) := blk_cell B7.out 2
    have p7_3 : u8.cell? ⟨g7, 3, none⟩ = some (.slice A l.length c) := blk_cell B7.out 3
    have p8_0 : u8.cell? ⟨g8, 0, none⟩ = some (.int .i64 a0) := blk_cell B8.out 0
    have p8_1 : u8.cell? ⟨g8, 1, none⟩ = some (.int .i64 a1) := blk_cell B8.out 1
    have p8_2 : u8.cell? ⟨g8, 2, none⟩ = some (.int .i64 (wrap64 (a0 + 1))) := blk_cell B8.out 2
    have p8_3 : u8.cell? ⟨g8, 3, none⟩ = some (.slice A l.length c) := blk_cell B8.out 3
    go_upto_region 12 with (first | ((with_reducible refine gate_dst (N := 9) rfl ?_); refine box_event (N := 9) ?hg ?hd (cs := #[(.int .i64 0), (.int .i64 0), (.int .i64 0), (.slice none 0 0)]) (t := 24) ?hr ?_; (case hd => rfl); (case hg => rfl); (case hr => first | (go_simp; done) | (go_simp; rfl)); intro g9 hg v9 hbox hb; have GE := Aside0.mk (hg : _ = _); have X := Aside0.mk hbox; have HBX := Aside0.mk hb; skip; have z0 : v9.cell? ⟨g9, 0, none⟩ = some (.int .i64 0) := blk_cell hbox 0; have f0 := blk_frozen hbox 0; have z1 : v9.cell? ⟨g9, 1, none⟩ = some (.int .i64 0) := blk_cell hbox 1; have f1 := blk_frozen hbox 1; have z2 : v9.cell? ⟨g9, 2, none⟩ = some (.int .i64 0) := blk_cell hbox 2; have f2 := blk_frozen hbox 2; have z3 : v9.cell? ⟨g9, 3, none⟩ = some (.slice none 0 0) := blk_cell hbox 3; have f3 := blk_frozen hbox 3; have y3_0 : v9.cell? ⟨g3, 0, none⟩ = some (.int .i64 a0) := blk_cell (blk_below B3.out hb) 0; have y3_1 : v9.cell? ⟨g3, 1, none⟩ = some (.int .i64 a1) := blk_cell (blk_below B3.out hb) 1; have y3_2 : v9.cell? ⟨g3, 2, none⟩ = some (.int .i64 a2) := blk_cell (blk_below B3.out hb) 2; have y3_3 : v9.cell? ⟨g3, 3, none⟩ = some (.slice A l.length c) := blk_cell (blk_below B3.out hb) 3; have y6_0 : v9.cell? ⟨g6, 0, none⟩ = some (.int .i64 a0) := blk_cell (blk_below B6.out hb) 0; have y6_1 : v9.cell? ⟨g6, 1, none⟩ = some (.int .i64 a1) := blk_cell (blk_below B6.out hb) 1; have y6_2 : v9.cell? ⟨g6, 2, none⟩ = some (.int .i64 a2) := blk_cell (blk_below B6.out hb) 2; have y6_3 : v9.cell? ⟨g6, 3, none⟩ = some (.slice A1 ld.length c1) := blk_cell (blk_below B6.out hb) 3; have y7_0 : v9.cell? ⟨g7, 0, none⟩ = some (.int .i64 a0) := blk_cell (blk_below B7.out hb) 0; have y7_1 : v9.cell? ⟨g7, 1, none⟩ = some (.int .i64 a0) := blk_cell (blk_below B7.out hb) 1; have y7_2 : v9.cell? ⟨g7, 2, none⟩ = some (.int .i64 a2) := blk_cell (blk_below B7.out hb) 2; have y7_3 : v9.cell? ⟨g7, 3, none⟩ = some (.slice A l.length c) := blk_cell (blk_below B7.out hb) 3; have y8_0 : v9.cell? ⟨g8, 0, none⟩ = some (.int .i64 a0) := blk_cell (blk_below B8.out hb) 0; have y8_1 : v9.cell? ⟨g8, 1, none⟩ = some (.int .i64 a1) := blk_cell (blk_below B8.out hb) 1; have y8_2 : v9.cell? ⟨g8, 2, none⟩ = some (.int .i64 (wrap64 (a0 + 1))) := blk_cell (blk_below B8.out hb) 2; have y8_3 : v9.cell? ⟨g8, 3, none⟩ = some (.slice A l.length c) := blk_cell (blk_below B8.out hb) 3; clear hbox hb hg) | fail)
    have hb := (below_set (j := 3) (v := (.slice A l.length c)) (below_set (j := 2) (v := (.int .i64 0)) (below_set (j := 1) (v := (.int .i64 a1)) (below_set (j := 0) (v := (.int .i64 a0)) HBX.out (Nat.le_of_eq GE.out.symm)) (Nat.le_of_eq GE.out.symm)) (Nat.le_of_eq GE.out.symm)) (Nat.le_of_eq GE.out.symm))
    have x_ := Aside0.mk (blk_put (cs' := #[(.int .i64 a0), (.int .i64 a1), (.int .i64 0), (.slice A l.length c)]) (blk_put (cs' := #[(.int .i64 a0), (.int .i64 a1), (.int .i64 0), (.slice none 0 0)]) (blk_put (cs' := #[(.int .i64 a0), (.int .i64 a1), (.int .i64 0), (.slice none 0 0)]) (blk_put (cs' := #[(.int .i64 a0), (.int .i64 0), (.int .i64 0), (.slice none 0 0)]) X.out 0 (.int .i64 a0) rfl) 1 (.int .i64 a1) rfl) 2 (.int .i64 0) rfl) 3 (.slice A l.length c) rfl)
    clear z0 z1 z2 z3 f0 f1 f2 f3 X HBX GE
    (try clear y3_0 y3_1 y3_2 y3_3 y6_0 y6_1 y6_2 y6_3 y7_0 y7_1 y7_2 y7_3 y8_0 y8_1 y8_2 y8_3)
    generalize ((((v9.setCell ⟨g9, 0, none⟩ (.int .i64 a0)).setCell ⟨g9, 1, none⟩ (.int .i64 a1)).setCell ⟨g9, 2, none⟩ (.int .i64 0)).setCell ⟨g9, 3, none⟩ (.slice A l.length c)) = u9 at x_ hb ⊢
    have t_ := Aside0.mk (below_step BT.out hb)
    have t3_ := Aside0.mk (blk_below B3.out hb)
    have t6_ := Aside0.mk (blk_below B6.out hb)
    have t7_ := Aside0.mk (blk_below B7.out hb)
    have t8_ := Aside0.mk (blk_below B8.out hb)
    (try clear p3_0 p3_1 p3_2 p3_3 p6_0 p6_1 p6_2 p6_3 p7_0 p7_1 p7_2 p7_3 p8_0 p8_1 p8_2 p8_3)
    clear BT B3 B6 B7 B8
    have BT := t_
    have B3 := t3_
    have B6 := t6_
    have B7 := t7_
    have B8 := t8_
    clear t_ t3_ t6_ t7_ t8_
    have B9 := x_
    clear x_ hb
    have p3_0 : u9.cell? ⟨g3, 0, none⟩ = some (.int .i64 a0) := blk_cell B3.out 0
    have p3_1 : u9.cell? ⟨g3, 1, none⟩ = some (.int .i64 a1) := blk_cell B3.out 1
    have p3_2 : u9.cell? ⟨g3, 2, none⟩ = some (.int .i64 a2) := blk_cell B3.out 2
    have p3_3 : u9.cell? ⟨g3, 3, none⟩ = some (.slice A l.length c) := blk_cell B3.out 3
    have p6_0 : u9.cell? ⟨g6, 0, none⟩ = some (.int .i64 a0) := blk_cell B6.out 0
    have p6_1 : u9.cell? ⟨g6, 1, none⟩ = some (.int .i64 a1) := blk_cell B6.out 1
    have p6_2 : u9.cell? ⟨g6, 2, none⟩ = some (.int .i64 a2) := blk_cell B6.out 2
    have p6_3 : u9.cell? ⟨g6, 3, none⟩ = some (.slice A1 ld.length c1) := blk_cell B6.out 3
    have p7_0 : u9.cell? ⟨g7, 0, none⟩ = some (.int .i64 a0) := blk_cell B7.out 0
    have p7_1 : u9.cell? ⟨g7, 1, none⟩ = some (.int .i64 a0) := blk_cell B7.out 1
    have p7_2 : u9.cell? ⟨g7, 2, none⟩ = some (.int .i64 a2) := blk_cell B7.out 2
    have p7_3 : u9.cell? ⟨g7, 3, none⟩ = some (.slice A l.length c) := blk_cell B7.out 3
    have p8_0 : u9.cell? ⟨g8, 0, none⟩ = some (.int .i64 a0) := blk_cell B8.out 0
    have p8_1 : u9.cell? ⟨g8, 1, none⟩ = some (.int .i64 a1) := blk_cell B8.out 1
    have p8_2 : u9.cell? ⟨g8, 2, none⟩ = some (.int .i64 (wrap64 (a0 + 1))) := blk_cell B8.out 2
    have p8_3 : u9.cell? ⟨g8, 3, none⟩ = some (.slice A l.length c) := blk_cell B8.out 3
    have p9_0 : u9.cell? ⟨g9, 0, none⟩ = some (.int .i64 a0) := blk_cell B9.out 0
    have p9_1 : u9.cell? ⟨g9, 1, none⟩ = some (.int .i64 a1) := blk_cell B9.out 1
    have p9_2 : u9.cell? ⟨g9, 2, none⟩ = some (.int .i64 0) := blk_cell B9.out 2
    have p9_3 : u9.cell? ⟨g9, 3, none⟩ = some (.slice A l.length c) := blk_cell B9.out 3
    go_wp2_with (first | ((with_reducible refine (impl_RingValid.calls k a0 a1 a2 A1 c1 ld false _ (Kd.C_below HDR.out BT.out) HCR.out HX.out).mono ?_); rintro e ya ⟨rfl, hb⟩; have t_ := Aside0.mk (below_step BT.out hb); have t3_ := Aside0.mk (blk_below B3.out hb); have t6_ := Aside0.mk (blk_below B6.out hb); have t7_ := Aside0.mk (blk_below B7.out hb); have t8_ := Aside0.mk (blk_below B8.out hb); have t9_ := Aside0.mk (blk_below B9.out hb); (try clear p3_0 p3_1 p3_2 p3_3 p6_0 p6_1 p6_2 p6_3 p7_0 p7_1 p7_2 p7_3 p8_0 p8_1 p8_2 p8_3 p9_0 p9_1 p9_2 p9_3); clear BT B3 B6 B7 B8 B9; have BT := t_; have B3 := t3_; have B6 := t6_; have B7 := t7_; have B8 := t8_; have B9 := t9_; clear t_ t3_ t6_ t7_ t8_ t9_; clear hb; have p3_0 : ya.cell? ⟨g3, 0, none⟩ = some (.int .i64 a0) := blk_cell B3.out 0; have p3_1 : ya.cell? ⟨g3, 1, none⟩ = some (.int .i64 a1) := blk_cell B3.out 1; have p3_2 : ya.cell? ⟨g3, 2, none⟩ = some (.int .i64 a2) := blk_cell B3.out 2; have p3_3 : ya.cell? ⟨g3, 3, none⟩ = some (.slice A l.length c) := blk_cell B3.out 3; have p6_0 : ya.cell? ⟨g6, 0, none⟩ = some (.int .i64 a0) := blk_cell B6.out 0; have p6_1 : ya.cell? ⟨g6, 1, none⟩ = some (.int .i64 a1) := blk_cell B6.out 1; have p6_2 : ya.cell? ⟨g6, 2, none⟩ = some (.int .i64 a2) := blk_cell B6.out 2; have p6_3 : ya.cell? ⟨g6, 3, none⟩ = some (.slice A1 ld.length c1) := blk_cell B6.out 3; have p7_0 : ya.cell? ⟨g7, 0, none⟩ = some (.int .i64 a0) := blk_cell B7.out 0; have p7_1 : ya.cell? ⟨g7, 1, none⟩ = some (.int .i64 a0) := blk_cell B7.out 1; have p7_2 : ya.cell? ⟨g7, 2, none⟩ = some (.int .i64 a2) := blk_cell B7.out 2; have p7_3 : ya.cell? ⟨g7, 3, none⟩ = some (.slice A l.length c) := blk_cell B7.out 3; have p8_0 : ya.cell? ⟨g8, 0, none⟩ = some (.int .i64 a0) := blk_cell B8.out 0; have p8_1 : ya.cell? ⟨g8, 1, none⟩ = some (.int .i64 a1) := blk_cell B8.out 1; have p8_2 : ya.cell? ⟨g8, 2, none⟩ = some (.int .i64 (wrap64 (a0 + 1))) := blk_cell B8.out 2; have p8_3 : ya.cell? ⟨g8, 3, none⟩ = some (.slice A l.length c) := blk_cell B8.out 3; have p9_0 : ya.cell? ⟨g9, 0, none⟩ = some (.int .i64 a0) := blk_cell B9.out 0; have p9_1 : ya.cell? ⟨g9, 1, none⟩ = some (.int .i64 a1) := blk_cell B9.out 1; have p9_2 : ya.cell? ⟨g9, 2, none⟩ = some (.int .i64 0) := blk_cell B9.out 2; have p9_3 : ya.cell? ⟨g9, 3, none⟩ = some (.slice A l.length c) := blk_cell B9.out 3; (try dsimp only)) | ((with_reducible refine (impl_RingValid.calls k a0 a0 a2 A c l false _ (Kd.C_below HN.out BT.out) HL.out HY.out).mono ?_); rintro e yb ⟨rfl, hb⟩; have t_ := Aside0.mk (below_step BT.out hb); have t3_ := Aside0.mk (blk_below B3.out hb); have t6_ := Aside0.mk (blk_below B6.out hb); have t7_ := Aside0.mk (blk_below B7.out hb); have t8_ := Aside0.mk (blk_below B8.out hb); have t9_ := Aside0.mk (blk_below B9.out hb); (try clear p3_0 p3_1 p3_2 p3_3 p6_0 p6_1 p6_2 p6_3 p7_0 p7_1 p7_2 p7_3 p8_0 p8_1 p8_2 p8_3 p9_0 p9_1 p9_2 p9_3); clear BT B3 B6 B7 B8 B9; have BT := t_; have B3 := t3_; have B6 := t6_; have B7 := t7_; have B8 := t8_; have B9 := t9_; clear t_ t3_ t6_ t7_ t8_ t9_; clear hb; have p3_0 : yb.cell? ⟨g3, 0, none⟩ = some (.int .i64 a0) := blk_cell B3.out 0; have p3_1 : yb.cell? ⟨g3, 1, none⟩ = some (.int .i64 a1) := blk_cell B3.out 1; have p3_2 : yb.cell? ⟨g3, 2, none⟩ = some (.int .i64 a2) := blk_cell B3.out 2; have p3_3 : yb.cell? ⟨g3, 3, none⟩ = some (.slice A l.length c) := blk_cell B3.out 3; have p6_0 : yb.cell? ⟨g6, 0, none⟩ = some (.int .i64 a0) := blk_cell B6.out 0; have p6_1 : yb.cell? ⟨g6, 1, none⟩ = some (.int .i64 a1) := blk_cell B6.out 1; have p6_2 : yb.cell? ⟨g6, 2, none⟩ = some (.int .i64 a2) := blk_cell B6.out 2; have p6_3 : yb.cell? ⟨g6, 3, none⟩ = some (.slice A1 ld.length c1) := blk_cell B6.out 3; have p7_0 : yb.cell? ⟨g7, 0, none⟩ = some (.int .i64 a0) := blk_cell B7.out 0; have p7_1 : yb.cell? ⟨g7, 1, none⟩ = some (.int .i64 a0) := blk_cell B7.out 1; have p7_2 : yb.cell? ⟨g7, 2, none⟩ = some (.int .i64 a2) := blk_cell B7.out 2; have p7_3 : yb.cell? ⟨g7, 3, none⟩ = some (.slice A l.length c) := blk_cell B7.out 3; have p8_0 : yb.cell? ⟨g8, 0, none⟩ = some (.int .i64 a0) := blk_cell B8.out 0; have p8_1 : yb.cell? ⟨g8, 1, none⟩ = some (.int .i64 a1) := blk_cell B8.out 1; have p8_2 : yb.cell? ⟨g8, 2, none⟩ = some (.int .i64 (wrap64 (a0 + 1))) := blk_cell B8.out 2; have p8_3 : yb.cell? ⟨g8, 3, none⟩ = some (.slice A l.length c) := blk_cell B8.out 3; have p9_0 : yb.cell? ⟨g9, 0, none⟩ = some (.int .i64 a0) := blk_cell B9.out 0; have p9_1 : yb.cell? ⟨g9, 1, none⟩ = some (.int .i64 a1) := blk_cell B9.out 1; have p9_2 : yb.cell? ⟨g9, 2, none⟩ = some (.int .i64 0) := blk_cell B9.out 2; have p9_3 : yb.cell? ⟨g9, 3, none⟩ = some (.slice A l.length c) := blk_cell B9.out 3; (try dsimp only)) | ((with_reducible refine (impl_RingValid.calls k a0 a1 (wrap64 (a0 + 1)) A c l false _ (Kd.C_below HN.out BT.out) HL.out HZ.out).mono ?_); rintro e yc ⟨rfl, hb⟩; have t_ := Aside0.mk (below_step BT.out hb); have t3_ := Aside0.mk (blk_below B3.out hb); have t6_ := Aside0.mk (blk_below B6.out hb); have t7_ := Aside0.mk (blk_below B7.out hb); have t8_ := Aside0.mk (blk_below B8.out hb); have t9_ := Aside0.mk (blk_below B9.out hb); (try clear p3_0 p3_1 p3_2 p3_3 p6_0 p6_1 p6_2 p6_3 p7_0 p7_1 p7_2 p7_3 p8_0 p8_1 p8_2 p8_3 p9_0 p9_1 p9_2 p9_3); clear BT B3 B6 B7 B8 B9; have BT := t_; have B3 := t3_; have B6 := t6_; have B7 := t7_; have B8 := t8_; have B9 := t9_; clear t_ t3_ t6_ t7_ t8_ t9_; clear hb; have p3_0 : yc.cell? ⟨g3, 0, none⟩ = some (.int .i64 a0) := blk_cell B3.out 0; have p3_1 : yc.cell? ⟨g3, 1, none⟩ = some (.int .i64 a1) := blk_cell B3.out 1; have p3_2 : yc.cell? ⟨g3, 2, none⟩ = some (.int .i64 a2) := blk_cell B3.out 2; have p3_3 : yc.cell? ⟨g3, 3, none⟩ = some (.slice A l.length c) := blk_cell B3.out 3; have p6_0 : yc.cell? ⟨g6, 0, none⟩ = some (.int .i64 a0) := blk_cell B6.out 0; have p6_1 : yc.cell? ⟨g6, 1, none⟩ = some (.int .i64 a1) := blk_cell B6.out 1; have p6_2 : yc.cell? ⟨g6, 2, none⟩ = some (.int .i64 a2) := blk_cell B6.out 2; have p6_3 : yc.cell? ⟨g6, 3, none⟩ = some (.slice A1 ld.length c1) := blk_cell B6.out 3; have p7_0 : yc.cell? ⟨g7, 0, none⟩ = some (.int .i64 a0) := blk_cell B7.out 0; have p7_1 : yc.cell? ⟨g7, 1, none⟩ = some (.int .i64 a0) := blk_cell B7.out 1; have p7_2 : yc.cell? ⟨g7, 2, none⟩ = some (.int .i64 a2) := blk_cell B7.out 2; have p7_3 : yc.cell? ⟨g7, 3, none⟩ = some (.slice A l.length c) := blk_cell B7.out 3; have p8_0 : yc.cell? ⟨g8, 0, none⟩ = some (.int .i64 a0) := blk_cell B8.out 0; have p8_1 : yc.cell? ⟨g8, 1, none⟩ = some (.int .i64 a1) := blk_cell B8.out 1; have p8_2 : yc.cell? ⟨g8, 2, none⟩ = some (.int .i64 (wrap64 (a0 + 1))) := blk_cell B8.out 2; have p8_3 : yc.cell? ⟨g8, 3, none⟩ = some (.slice A l.length c) := blk_cell B8.out 3; have p9_0 : yc.cell? ⟨g9, 0, none⟩ = some (.int .i64 a0) := blk_cell B9.out 0; have p9_1 : yc.cell? ⟨g9, 1, none⟩ = some (.int .i64 a1) := blk_cell B9.out 1; have p9_2 : yc.cell? ⟨g9, 2, none⟩ = some (.int .i64 0) := blk_cell B9.out 2; have p9_3 : yc.cell? ⟨g9, 3, none⟩ = some (.slice A l.length c) := blk_cell B9.out 3; (try dsimp only)) | ((with_reducible refine (impl_RingValid.calls k a0 a1 0 A c l r _ (Kd.C_below HN.out BT.out) HL.out HU.out).mono ?_); rintro e yd ⟨rfl, hb⟩; have t_ := Aside0.mk (below_step BT.out hb); have t3_ := Aside0.mk (blk_below B3.out hb); have t6_ := Aside0.mk (blk_below B6.out hb); have t7_ := Aside0.mk (blk_below B7.out hb); have t8_ := Aside0.mk (blk_below B8.out hb); have t9_ := Aside0.mk (blk_below B9.out hb); (try clear p3_0 p3_1 p3_2 p3_3 p6_0 p6_1 p6_2 p6_3 p7_0 p7_1 p7_2 p7_3 p8_0 p8_1 p8_2 p8_3 p9_0 p9_1 p9_2 p9_3); clear BT B3 B6 B7 B8 B9; have BT := t_; have B3 := t3_; have B6 := t6_; have B7 := t7_; have B8 := t8_; have B9 := t9_; clear t_ t3_ t6_ t7_ t8_ t9_; clear hb; have p3_0 : yd.cell? ⟨g3, 0, none⟩ = some (.int .i64 a0) := blk_cell B3.out 0; have p3_1 : yd.cell? ⟨g3, 1, none⟩ = some (.int .i64 a1) := blk_cell B3.out 1; have p3_2 : yd.cell? ⟨g3, 2, none⟩ = some (.int .i64 a2) := blk_cell B3.out 2; have p3_3 : yd.cell? ⟨g3, 3, none⟩ = some (.slice A l.length c) := blk_cell B3.out 3; have p6_0 : yd.cell? ⟨g6, 0, none⟩ = some (.int .i64 a0) := blk_cell B6.out 0; have p6_1 : yd.cell? ⟨g6, 1, none⟩ = some (.int .i64 a1) := blk_cell B6.out 1; have p6_2 : yd.cell? ⟨g6, 2, none⟩ = some (.int .i64 a2) := blk_cell B6.out 2; have p6_3 : yd.cell? ⟨g6, 3, none⟩ = some (.slice A1 ld.length c1) := blk_cell B6.out 3; have p7_0 : yd.cell? ⟨g7, 0, none⟩ = some (.int .i64 a0) := blk_cell B7.out 0; have p7_1 : yd.cell? ⟨g7, 1, none⟩ = some (.int .i64 a0) := blk_cell B7.out 1; have p7_2 : yd.cell? ⟨g7, 2, none⟩ = some (.int .i64 a2) := blk_cell B7.out 2; have p7_3 : yd.cell? ⟨g7, 3, none⟩ = some (.slice A l.length c) := blk_cell B7.out 3; have p8_0 : yd.cell? ⟨g8, 0, none⟩ = some (.int .i64 a0) := blk_cell B8.out 0; have p8_1 : yd.cell? ⟨g8, 1, none⟩ = some (.int .i64 a1) := blk_cell B8.out 1; have p8_2 : yd.cell? ⟨g8, 2, none⟩ = some (.int .i64 (wrap64 (a0 + 1))) := blk_cell B8.out 2; have p8_3 : yd.cell? ⟨g8, 3, none⟩ = some (.slice A l.length c) := blk_cell B8.out 3; have p9_0 : yd.cell? ⟨g9, 0, none⟩ = some (.int .i64 a0) := blk_cell B9.out 0; have p9_1 : yd.cell? ⟨g9, 1, none⟩ = some (.int .i64 a1) := blk_cell B9.out 1; have p9_2 : yd.cell? ⟨g9, 2, none⟩ = some (.int .i64 0) := blk_cell B9.out 2; have p9_3 : yd.cell? ⟨g9, 3, none⟩ = some (.slice A l.length c) := blk_cell B9.out 3; (try dsimp only)) | fail)
    go_ret
    exact ⟨rfl, below_step BW.out BT.out⟩

end Go.Proofs.Ytiakpoamjiodoaa.PA

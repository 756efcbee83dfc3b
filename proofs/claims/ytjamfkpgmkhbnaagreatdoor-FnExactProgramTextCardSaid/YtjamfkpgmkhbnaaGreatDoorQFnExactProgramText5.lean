/- Part 6. -/
import Derived.Test.YtjamfkpgmkhbnaaGreatDoorQFnExactProgramText4
import Derived.Lib.Join
import Derived.Lib.ItoaNum
import Derived.Lib.Bytealg
import Derived.KernelRfl
import Derived.Test.YtjamfkpgmkhbnaaGreatDoorRows
import Derived.ProofKit
import Derived.LaidMore
import Derived.Stop.Joined
import Derived.Stop.LaidErr
import Derived.MakeChecks
import Derived.Lib.LaidTab
import Derived.ChangeOld
import Derived.ChangeVars
set_option maxHeartbeats 8000000
set_option maxRecDepth 100000
namespace Go.Proofs.YtjamfkpgmkhbnaaGreatDoor.PA
open Go.RowKit Go.Proofs.YtjamfkpgmkhbnaaGreatDoorW.PrintWords Go.Proofs.YtjamfkpgmkhbnaaGreatDoorW.PrintMore Go.Proofs.YtjamfkpgmkhbnaaGreatDoor.Core
theorem rdSS_nat (l : List (List S58)) (i : Nat) (h : i < l.length) : rd_L4 l (i : Int) = l[i] := by
 unfold rd_L4
 rw [Int.toNat_natCast, List.getD_eq_getElem?_getD, List.getElem?_eq_getElem h]
 rfl
def roomOk (r : Int) : Bool := decide (1 ≤ r) && decide (r ≤ 4)
def roomsOk (rs : List Int) : Bool := rs.all roomOk && decide ((rs.length : Int) ≤ 3)
theorem impl_rooms_l0 (rs : List Int) (hl : rs.length ≤ 1000000000) : ∀ (d j : Nat), j + d = rs.length → EvP (fun k => impl_roomsValid.l0 k rs rs (rs.length : Int) (j : Int)) (· = ((rs.drop j).all roomOk && decide ((rs.length : Int) ≤ 3))) := by
  intro d
  induction d with
  | zero =>
    intro j hj
    refine EvP.step (fun k => impl_roomsValid.l0.eq_2 (k := k) ..) (EvP.no (by omega) (EvP.ret ?_))
    rw [List.drop_eq_nil_of_le (by omega)]
    rfl
  | succ d ih =>
    intro j hj
    have hlt : j < rs.length := by omega
    refine EvP.step (fun k => impl_roomsValid.l0.eq_2 (k := k) ..) (EvP.yes (by omega) (EvP.yes (by omega) (EvP.yes (by omega) ?_)))
    rw [rd_nat rs j hlt, w64 (by omega) (by omega), List.drop_eq_getElem_cons hlt, List.all_cons]
    refine EvP.ite (fun h => EvP.ret ?_) (fun h => EvP.ite (fun h2 => EvP.ret ?_) (fun h2 => ?_))
    · have : roomOk rs[j] = false := by
        unfold roomOk
        rw [decide_eq_false (by omega)]
        rfl
      rw [this]
      rfl
    · have : roomOk rs[j] = false := by
        unfold roomOk
        rw [decide_eq_false (p := rs[j] ≤ 4) (by omega), Bool.and_false]
      rw [this]
      rfl
    · have : roomOk rs[j] = true := by
        unfold roomOk
        rw [decide_eq_true (by omega), decide_eq_true (by omega)]
        rfl
      rw [this, Bool.true_and]
      exact ih (j + 1) (by omega)
theorem impl_rooms_ev (rs : List Int) (hl : rs.length ≤ 1000000000) : EvP (fun k => impl_roomsValid.f k rs) (· = roomsOk rs) := by
  unfold impl_roomsValid.f
  exact impl_rooms_l0 rs hl rs.length 0 (by omega)
theorem spec_rooms_l0 (rs : List Int) (hl : rs.length ≤ 1000000000) : ∀ (d j : Nat), j + d = rs.length → EvP (fun k => spec_l12Rooms.l0 k rs (j : Int)) (· = ((rs.drop j).all roomOk && decide ((rs.length : Int) ≤ 3))) := by
  intro d
  induction d with
  | zero =>
    intro j hj
    refine EvP.step (fun k => spec_l12Rooms.l0.eq_2 (k := k) ..) (EvP.no (by omega) (EvP.ret ?_))
    rw [List.drop_eq_nil_of_le (by omega)]
    rfl
  | succ d ih =>
    intro j hj
    have hlt : j < rs.length := by omega
    refine EvP.step (fun k => spec_l12Rooms.l0.eq_2 (k := k) ..) (EvP.yes (by omega) (EvP.yes (by omega) ?_))
    rw [rd_nat rs j hlt, w64 (by omega) (by omega), List.drop_eq_getElem_cons hlt, List.all_cons, l6In_eq]
    refine EvP.bind0 rfl (EvP.ite (fun h => ?_) (fun h => EvP.ret ?_))
    · rw [show roomOk rs[j] = true from h, Bool.true_and]
      exact ih (j + 1) (by omega)
    · rw [show roomOk rs[j] = false from Bool.eq_false_iff.mpr h]
      rfl
theorem spec_rooms_ev (rs : List Int) (hl : rs.length ≤ 1000000000) : EvP (fun k => spec_l12Rooms.f k rs) (· = roomsOk rs) := by
  unfold spec_l12Rooms.f
  exact spec_rooms_l0 rs hl rs.length 0 (by omega)
def hasBox (m : Int) (s : S58) : Bool := !((s.f0 == 4 || s.f0 == 5) && decide (s.f2 ≥ m))
mutual
def bxS (m : Int) : S58 → Bool
 | ⟨a, b, c, e, l1, l2⟩ => hasBox m ⟨a, b, c, e, l1, l2⟩ && (bxSs m l1 && bxSs m l2)
def bxSs (m : Int) : List S58 → Bool
 | [] => true
 | x :: xs => bxS m x && bxSs m xs
end
theorem bxS_f (m : Int) (s : S58) : bxS m s = (hasBox m s && (bxSs m s.f4 && bxSs m s.f5)) := by
 cases s
 rw [bxS]
theorem bxSs_all (m : Int) : ∀ l : List S58, bxSs m l = l.all (bxS m)
 | [] => by rw [bxSs]; rfl
 | x :: xs => by rw [bxSs, bxSs_all m xs]; rfl
theorem spec_l12Boxes_ev (m : Int) : ∀ (c : Nat) (l : List S58), cSs l ≤ c → c ≤ 1000000000 → EvP (fun k => spec_l12Boxes.f k l m) (· = bxSs m l) := by
  intro c
  induction c with
  | zero =>
    intro l hl hc
    have := cSs_length l
    obtain rfl := List.eq_nil_of_length_eq_zero (show l.length = 0 by omega)
    exact EvP.step (fun k => spec_l12Boxes.f.eq_2 (k := k) ..) (EvP.step (fun k => spec_l12Boxes.l0.eq_2 (k := k) ..) (EvP.no (by simp) (EvP.ret (by rw [bxSs]))))
  | succ c ih =>
    intro l hl hc
    have hlen := cSs_length l
    have loop : ∀ (r j : Nat), j + r = l.length → EvP (fun k => spec_l12Boxes.l0 k l m (j : Int)) (· = bxSs m (l.drop j)) := by
      intro r
      induction r with
      | zero =>
        intro j hj
        refine EvP.step (fun k => spec_l12Boxes.l0.eq_2 (k := k) ..) (EvP.no (by omega) (EvP.ret ?_))
        rw [List.drop_eq_nil_of_le (by omega), bxSs]
      | succ r ih2 =>
        intro j hj
        have hlt : j < l.length := by omega
        have hm := cSs_mem l _ (List.getElem_mem hlt)
        have hcs := cS_f l[j]
        have hd : bxSs m (l.drop j) = (bxS m l[j] && bxSs m (l.drop (j + 1))) := by
          rw [List.drop_eq_getElem_cons hlt, bxSs]
        rw [hd, bxS_f]
        have j1 : ∀ b : Bool, (hasBox m l[j] = !b) → EvP (fun k => spec_l12Boxes.j1 k l m (j : Int) b l[j].f0 l[j].f1 l[j].f2 l[j].f3.f0 l[j].f3.f1 l[j].f3.f2 l[j].f4 l[j].f5) (· = (hasBox m l[j] && (bxSs m l[j].f4 && bxSs m l[j].f5) && bxSs m (l.drop (j + 1)))) := by
          intro b hb
          refine EvP.step (fun k => spec_l12Boxes.j1.eq_2 (k := k) ..) (EvP.ite (fun h => EvP.ret ?_) (fun h => ?_))
          · rw [hb, h]
            rfl
          · rw [hb, Bool.eq_false_iff.mpr h, w64 (n := (j : Int) + 1) (by omega) (by omega)]
            refine EvP.bindEq (ih _ (by omega) (by omega)) (EvP.ite (fun h4 => EvP.bindEq (ih _ (by omega) (by omega)) (EvP.ite (fun h5 => ?_) (fun h5 => EvP.ret ?_))) (fun h4 => EvP.ret ?_))
            · rw [h4, h5]
              exact ih2 (j + 1) (by omega)
            · rw [Bool.eq_false_iff.mpr h5]
              simp
            · rw [Bool.eq_false_iff.mpr h4]
              simp
        refine EvP.step (fun k => spec_l12Boxes.l0.eq_2 (k := k) ..) (EvP.yes (by omega) (EvP.yes (by omega) ?_))
        rw [rdS_nat l j hlt]
        refine EvP.ite (fun h4 => j1 _ ?_) (fun h4 => EvP.ite (fun h5 => j1 _ ?_) (fun h5 => j1 _ ?_))
        · simp [hasBox, h4]
        · simp [hasBox, h5]
        · simp [hasBox, h4, h5]
    refine EvP.step (fun k => spec_l12Boxes.f.eq_2 (k := k) ..) ?_
    exact loop l.length 0 (by omega)
theorem stS_boxes (m : Int) (h0 : 0 ≤ m) (h3 : m ≤ 3) (s : S58) : stS m s = (stS 3 s && hasBox m s) := by
 rw [Bool.eq_iff_iff, Bool.and_eq_true]
 unfold stS stOk restOk hasBox boxOk
 by_cases c4 : s.f0 = 4
 ·simp only [c4]
  simp
  constructor
  ·rintro ⟨a, ⟨b, c⟩, d⟩
   exact ⟨⟨a, ⟨b, by omega⟩, d⟩, by omega⟩
  ·rintro ⟨⟨a, ⟨b, c⟩, d⟩, e⟩
   exact ⟨a, ⟨b, by omega⟩, d⟩
 ·by_cases c5 : s.f0 = 5
  ·simp only [c5]
   simp
   constructor
   ·rintro ⟨a, ⟨b, c⟩, d⟩
    exact ⟨⟨a, ⟨b, by omega⟩, d⟩, by omega⟩
   ·rintro ⟨⟨a, ⟨b, c⟩, d⟩, e⟩
    exact ⟨a, ⟨b, by omega⟩, d⟩
  ·simp [c4, c5]
theorem okOne_boxes (m : Int) (h0 : 0 ≤ m) (h3 : m ≤ 3) : ∀ (d : Nat) (s : S58), okOne m d s = true ↔ (okOne 3 d s = true ∧ bxS m s = true)
 | 0, s => by
  simp only [okOne, Bool.and_eq_true, stS_boxes m h0 h3 s, bxS_f]
  constructor
  ·rintro ⟨⟨a, b⟩, c⟩
   have hf := flat_cS a (fun e => by rw [(isBlk_iff s).mpr e] at c; cases c)
   rw [cS_f] at hf
   have l4 := cSs_length s.f4
   have l5 := cSs_length s.f5
   rw [List.eq_nil_of_length_eq_zero (show s.f4.length = 0 by omega), List.eq_nil_of_length_eq_zero (show s.f5.length = 0 by omega)]
   exact ⟨⟨a, c⟩, b, by rw [bxSs], by rw [bxSs]⟩
  ·rintro ⟨⟨a, c⟩, b, _⟩
   exact ⟨⟨a, b⟩, c⟩
 | d + 1, s => by
  have ih : ∀ l : List S58, l.all (okOne m d) = true ↔ (l.all (okOne 3 d) = true ∧ bxSs m l = true) := by
   intro l
   rw [bxSs_all, List.all_eq_true, List.all_eq_true, List.all_eq_true]
   constructor
   ·exact fun h => ⟨fun x hx => ((okOne_boxes m h0 h3 d x).mp (h x hx)).1, fun x hx => ((okOne_boxes m h0 h3 d x).mp (h x hx)).2⟩
   ·exact fun h x hx => (okOne_boxes m h0 h3 d x).mpr ⟨h.1 x hx, h.2 x hx⟩
  simp only [okOne, Bool.and_eq_true, Bool.or_eq_true, stS_boxes m h0 h3 s, bxS_f, ih]
  cases hb : isBlk s with
  | true =>
   simp only [Bool.not_true, Bool.false_eq_true, false_or]
   constructor
   ·rintro ⟨⟨a, b⟩, ⟨c1, c2⟩, d1, d2⟩
    exact ⟨⟨a, c1, d1⟩, b, c2, d2⟩
   ·rintro ⟨⟨a, c1, d1⟩, b, c2, d2⟩
    exact ⟨⟨a, b⟩, ⟨c1, c2⟩, d1, d2⟩
  | false =>
   simp only [Bool.not_false, true_or, and_true]
   constructor
   ·rintro ⟨a, b⟩
    have hf := flat_cS a (fun e => by rw [(isBlk_iff s).mpr e] at hb; cases hb)
    rw [cS_f] at hf
    have l4 := cSs_length s.f4
    have l5 := cSs_length s.f5
    rw [List.eq_nil_of_length_eq_zero (show s.f4.length = 0 by omega), List.eq_nil_of_length_eq_zero (show s.f5.length = 0 by omega)]
    exact ⟨a, b, by rw [bxSs], by rw [bxSs]⟩
   ·rintro ⟨a, b, _⟩
    exact ⟨a, b⟩
theorem okT_boxes (m : Int) (h0 : 0 ≤ m) (h3 : m ≤ 3) (l : List S58) : okT m l = (okT 3 l && bxSs m l) := by
 rw [Bool.eq_iff_iff, Bool.and_eq_true, okT_iff, okT_iff, bxSs_all]
 unfold okL
 rw [List.all_eq_true, List.all_eq_true, List.all_eq_true]
 constructor
 ·exact fun h => ⟨⟨fun x hx => ((okOne_boxes m h0 h3 3 x).mp (h.1 x hx)).1, h.2⟩, fun x hx => ((okOne_boxes m h0 h3 3 x).mp (h.1 x hx)).2⟩
 ·exact fun h => ⟨fun x hx => (okOne_boxes m h0 h3 3 x).mpr ⟨h.1.1 x hx, h.2 x hx⟩, h.1.2⟩
def progOk (rs : List Int) (ts : List (List S58)) : Bool := roomsOk rs && (decide (1 ≤ ts.length) && decide (ts.length ≤ 3) && ts.all (okT (rs.length : Int)))
theorem rooms_len {rs : List Int} (h : roomsOk rs = true) : (0 : Int) ≤ rs.length ∧ (rs.length : Int) ≤ 3 := by
 unfold roomsOk at h
 rw [Bool.and_eq_true, decide_eq_true_eq] at h
 exact ⟨by omega, h.2⟩
def Smalls (ts : List (List S58)) : Prop := ts.length ≤ 1000000000 ∧ ∀ t ∈ ts, cSs t ≤ 1000000000
theorem impl_ProgramValid_ev (rs : List Int) (ts : List (List S58)) (hr : rs.length ≤ 1000000000) (ht : Smalls ts) : EvP (fun k => impl_ProgramValid.f k rs ts) (· = progOk rs ts) := by
  obtain ⟨hl, ht⟩ := ht
  have loop : roomsOk rs = true → ∀ (d j : Nat), j + d = ts.length → EvP (fun k => impl_ProgramValid.l0 k ts (ts.length : Int) (j : Int) rs ts) (· = (ts.drop j).all (okT (rs.length : Int))) := by
    intro hro d
    induction d with
    | zero =>
      intro j hj
      refine EvP.step (fun k => impl_ProgramValid.l0.eq_2 (k := k) ..) (EvP.no (by omega) (EvP.ret ?_))
      rw [List.drop_eq_nil_of_le (by omega)]
      rfl
    | succ d ih =>
      intro j hj
      have hlt : j < ts.length := by omega
      refine EvP.step (fun k => impl_ProgramValid.l0.eq_2 (k := k) ..) (EvP.yes (by omega) (EvP.yes (by omega) (EvP.yes (by omega) ?_)))
      rw [rdSS_nat ts j hlt, w64 (by omega) (by omega), List.drop_eq_getElem_cons hlt, List.all_cons]
      refine EvP.bindEq (impl_stmtsValid_ev _ _ (ht _ (List.getElem_mem hlt))) (EvP.ite (fun h => ?_) (fun h => EvP.ret ?_))
      · rw [h, Bool.true_and]
        exact ih (j + 1) (by omega)
      · rw [Bool.eq_false_iff.mpr h]
        rfl
  have j0 : ∀ b : Bool, (b = false → roomsOk rs = true ∧ 1 ≤ ts.length ∧ ts.length ≤ 3) → (b = true → progOk rs ts = false) → EvP (fun k => impl_ProgramValid.j0 k b rs ts) (· = progOk rs ts) := by
    intro b h1 h2
    refine EvP.step (fun k => impl_ProgramValid.j0.eq_2 (k := k) ..) (EvP.ite (fun h => EvP.ret (h2 h).symm) (fun h => ?_))
    obtain ⟨g1, g2, g3⟩ := h1 (Bool.eq_false_iff.mpr h)
    unfold progOk
    rw [g1, decide_eq_true g2, decide_eq_true g3]
    exact loop g1 ts.length 0 (by omega)
  unfold impl_ProgramValid.f
  refine EvP.bindEq (impl_rooms_ev rs hr) (EvP.ite (fun h => EvP.ite (fun h1 => j0 true (fun e => by cases e) (fun _ => ?_)) (fun h1 => j0 _ (fun e => ?_) (fun e => ?_))) (fun h => j0 true (fun e => by cases e) (fun _ => ?_)))
  · unfold progOk
    rw [decide_eq_false (by omega)]
    simp
  · have := of_decide_eq_false e
    exact ⟨h, by omega, by omega⟩
  · have := of_decide_eq_true e
    unfold progOk
    rw [decide_eq_false (p := ts.length ≤ 3) (by omega)]
    simp
  · unfold progOk
    rw [Bool.eq_false_iff.mpr h]
    rfl
theorem spec_ProgramValid_ev (rs : List Int) (ts : List (List S58)) (hr : rs.length ≤ 1000000000) (ht : Smalls ts) : EvP (fun k => spec_ProgramValid.f k rs ts) (· = progOk rs ts) := by
  obtain ⟨hl, ht⟩ := ht
  have loop : roomsOk rs = true → ∀ (d j : Nat), j + d = ts.length → EvP (fun k => spec_ProgramValid.l0 k (j : Int) rs ts) (· = (ts.drop j).all (okT (rs.length : Int))) := by
    intro hro d
    obtain ⟨r0, r3⟩ := rooms_len hro
    induction d with
    | zero =>
      intro j hj
      refine EvP.step (fun k => spec_ProgramValid.l0.eq_2 (k := k) ..) (EvP.no (by omega) (EvP.ret ?_))
      rw [List.drop_eq_nil_of_le (by omega)]
      rfl
    | succ d ih =>
      intro j hj
      have hlt : j < ts.length := by omega
      refine EvP.step (fun k => spec_ProgramValid.l0.eq_2 (k := k) ..) (EvP.yes (by omega) (EvP.yes (by omega) ?_))
      rw [rdSS_nat ts j hlt, w64 (by omega) (by omega), List.drop_eq_getElem_cons hlt, List.all_cons, okT_boxes _ r0 r3]
      refine EvP.bindEq (spec_StmtsValid_ev _ (ht _ (List.getElem_mem hlt))) (EvP.ite (fun h => EvP.bindEq (spec_l12Boxes_ev _ _ _ (ht _ (List.getElem_mem hlt)) (by omega)) (EvP.ite (fun h2 => ?_) (fun h2 => EvP.ret ?_))) (fun h => EvP.ret ?_))
      · rw [h, h2, Bool.true_and, Bool.true_and]
        exact ih (j + 1) (by omega)
      · rw [h, Bool.eq_false_iff.mpr h2]
        rfl
      · rw [Bool.eq_false_iff.mpr h]
        rfl
  have j0 : ∀ b : Bool, (b = false → roomsOk rs = true ∧ 1 ≤ ts.length ∧ ts.length ≤ 3) → (b = true → progOk rs ts = false) → EvP (fun k => spec_ProgramValid.j0 k b rs ts) (· = progOk rs ts) := by
    intro b h1 h2
    refine EvP.step (fun k => spec_ProgramValid.j0.eq_2 (k := k) ..) (EvP.ite (fun h => EvP.ret (h2 h).symm) (fun h => ?_))
    obtain ⟨g1, g2, g3⟩ := h1 (Bool.eq_false_iff.mpr h)
    unfold progOk
    rw [g1, decide_eq_true g2, decide_eq_true g3]
    exact loop g1 ts.length 0 (by omega)
  unfold spec_ProgramValid.f
  refine EvP.bindEq (spec_rooms_ev rs hr) (EvP.ite (fun h => ?_) (fun h => j0 true (fun e => by cases e) (fun _ => ?_)))
  · rw [l6In_eq]
    refine EvP.bind0 rfl (j0 _ (fun e => ?_) (fun e => ?_))
    · rw [Bool.not_eq_false', Bool.and_eq_true, decide_eq_true_eq, decide_eq_true_eq] at e
      exact ⟨h, by omega, by omega⟩
    · unfold progOk
      have e2 : (decide (1 ≤ ts.length) && decide (ts.length ≤ 3)) = false := by
        rw [Bool.eq_false_iff]
        intro q
        rw [Bool.and_eq_true, decide_eq_true_eq, decide_eq_true_eq] at q
        rw [decide_eq_true (by omega), decide_eq_true (by omega)] at e
        cases e
      rw [e2]
      simp
  · unfold progOk
    rw [Bool.eq_false_iff.mpr h]
    rfl
theorem progOk_iff {rs : List Int} {ts : List (List S58)} : progOk rs ts = true ↔ roomsOk rs = true ∧ 1 ≤ ts.length ∧ ts.length ≤ 3 ∧ ∀ t ∈ ts, okT (rs.length : Int) t = true := by
 unfold progOk
 simp only [Bool.and_eq_true, decide_eq_true_eq, List.all_eq_true, and_assoc]
def trSS (ts : List (List S113)) : List (List S58) := ts.map trSs
def cntSS : List (List S113) → Nat
 | [] => 0
 | t :: ts => cntSs t + 1 + cntSS ts
theorem cntSS_length : ∀ l : List (List S113), l.length ≤ cntSS l
 | [] => Nat.zero_le _
 | x :: xs => by
  have := cntSS_length xs
  rw [cntSS, List.length_cons]
  omega
theorem cntSS_mem : ∀ (l : List (List S113)) (x : List S113), x ∈ l → cntSs x ≤ cntSS l
 | y :: ys, x, h => by
  rw [cntSS]
  rcases List.mem_cons.1 h with rfl | h
  ·omega
  ·have := cntSS_mem ys x h
   omega
theorem cntSS_drop (l : List (List S113)) (i : Nat) (h : i < l.length) : cntSS (l.drop i) = cntSs l[i] + 1 + cntSS (l.drop (i + 1)) := by
 rw [List.drop_eq_getElem_cons h, cntSS]
theorem rdLSS_nat (l : List (List S113)) (i : Nat) (h : i < l.length) : rd_L8 l (i : Int) = l[i] := by
 unfold rd_L8
 rw [Int.toNat_natCast, List.getD_eq_getElem?_getD, List.getElem?_eq_getElem h]
 rfl
theorem szStmtSS_l0 (l : List (List S113)) (hl : l.length ≤ 1048576) (he : ∀ x ∈ l, x.length ≤ maxLen ∧ ∀ y ∈ x, WF113 y) :
    ∀ (d j : Nat) (n : Int), j + d = l.length → 0 ≤ n → n ≤ 1048576 → EvP (fun k => laws_szStmtSS.l0 k l n (j : Int)) (· = lefts (cntSS (l.drop j) - d) n) := by
  intro d
  induction d with
  | zero =>
    intro j n hj h0 h1
    refine EvP.step (fun k => laws_szStmtSS.l0.eq_2 (k := k) ..) (EvP.no (by omega) (EvP.ret ?_))
    rw [List.drop_eq_nil_of_le (by omega)]
    unfold lefts
    rw [if_pos (by simp [cntSS]; omega)]
    simp [cntSS]
  | succ d ih =>
    intro j n hj h0 h1
    have hlt : j < l.length := by omega
    have hc := cntSS_drop l j hlt
    have hd : d ≤ cntSS (l.drop (j + 1)) := by
      have := cntSS_length (l.drop (j + 1))
      rw [List.length_drop] at this
      omega
    obtain ⟨w1, w2⟩ := he _ (List.getElem_mem hlt)
    refine EvP.step (fun k => laws_szStmtSS.l0.eq_2 (k := k) ..) (EvP.yes (by omega) (EvP.yes (by omega) ?_))
    rw [rdLSS_nat l j hlt, w64 (n := (j : Int) + 1) (by omega) (by omega)]
    refine EvP.bindEq (szStmtS_ev _ w1 w2 n h0 h1) ?_
    by_cases h2 : (cntSs l[j] : Int) ≤ n
    · have e : lefts (cntSs l[j]) n = n - cntSs l[j] := if_pos h2
      rw [e]
      refine EvP.no (by omega) ?_
      refine (ih (j + 1) (n - cntSs l[j]) (by omega) (by omega) (by omega)).mono fun a ha => ?_
      rw [ha]
      unfold lefts
      by_cases h3 : ((cntSS (l.drop (j + 1)) - d : Nat) : Int) ≤ n - cntSs l[j]
      · rw [if_pos h3, if_pos (by omega)]
        omega
      · rw [if_neg h3, if_neg (by omega)]
    · have e : lefts (cntSs l[j]) n = -1 := if_neg h2
      rw [e]
      refine EvP.yes (by omega) (EvP.ret ?_)
      unfold lefts
      rw [if_neg (by omega)]
theorem szStmtSS_ev (l : List (List S113)) (hl : l.length ≤ maxLen) (he : ∀ x ∈ l, x.length ≤ maxLen ∧ ∀ y ∈ x, WF113 y) (n : Int) (h0 : 0 ≤ n) (h1 : n ≤ 1048576) :
    EvP (fun k => laws_szStmtSS.f k l n) (· = lefts (cntSS l) n) := by
  have hm : maxLen = 9223372036854775807 := rfl
  have hc := cntSS_length l
  unfold laws_szStmtSS.f
  rw [w64 (by omega) (by omega)]
  refine EvP.ite (fun h => EvP.ret ?_) (fun h => ?_)
  · unfold lefts
    rw [if_neg (by omega)]
  · refine (szStmtSS_l0 l (by omega) he l.length 0 (n - l.length) (by omega) (by omega) (by omega)).mono fun a ha => ?_
    rw [ha, List.drop_zero]
    unfold lefts
    by_cases h3 : ((cntSS l - l.length : Nat) : Int) ≤ n - l.length
    · rw [if_pos h3, if_pos (by omega)]
      omega
    · rw [if_neg h3, if_neg (by omega)]
theorem szProgram_ev (rs : List Int) (ts : List (List S113)) (hr : rs.length ≤ maxLen) (hl : ts.length ≤ maxLen) (he : ∀ x ∈ ts, x.length ≤ maxLen ∧ ∀ y ∈ x, WF113 y) :
  EvP (fun k => laws_szProgram.f k rs ts 1048576) (fun r => r < 0 ∨ (rs.length ≤ 1048576 ∧ cntSS ts ≤ 1048576)) := by
 have hm : maxLen = 9223372036854775807 := rfl
 unfold laws_szProgram.f
 refine EvP.bind0 (szIntS_eq rs 1048576 (by omega) (by omega) (by omega)) ?_
 by_cases h : (1048576 : Int) - rs.length < 0
 ·rw [if_pos h]
  exact EvP.yes (by omega) (EvP.ret (.inl (by omega)))
 ·rw [if_neg h]
  refine EvP.no h (EvP.bindEq (szStmtSS_ev ts hl he _ (by omega) (by omega)) (EvP.ite (fun h2 => EvP.ret (.inl (by omega))) (fun h2 => EvP.ret (.inr ⟨by omega, ?_⟩))))
  unfold lefts at h2
  by_cases h3 : (cntSS ts : Int) ≤ 1048576 - rs.length
  ·omega
  ·rw [if_neg h3] at h2
   omega
theorem toStmtSS_l0 (l : List (List S113)) (hl : l.length ≤ 1048576) (he : ∀ x ∈ l, cntSs x ≤ 1048576) :
    ∀ (d j : Nat) (m : List (List S58)), j + d = l.length → m.length = l.length → EvP (fun k => laws_toStmtSS.l0 k l m (j : Int)) (· = m.take j ++ trSS (l.drop j)) := by
  intro d
  induction d with
  | zero =>
    intro j m hj hm
    refine EvP.step (fun k => laws_toStmtSS.l0.eq_2 (k := k) ..) (EvP.no (by omega) (EvP.ret ?_))
    rw [List.drop_eq_nil_of_le (by omega), List.take_of_length_le (by omega)]
    simp [trSS]
  | succ d ih =>
    intro j m hj hm
    have hlt : j < l.length := by omega
    refine EvP.step (fun k => laws_toStmtSS.l0.eq_2 (k := k) ..) (EvP.yes (by omega) (EvP.yes (by omega) ?_))
    rw [rdLSS_nat l j hlt, w64 (n := (j : Int) + 1) (by omega) (by omega), Int.toNat_natCast]
    refine EvP.bindEq (toStmtS_ev _ (he _ (List.getElem_mem hlt))) (EvP.yes (by omega) ?_)
    refine (ih (j + 1) (m.set j (trSs l[j])) (by omega) (by rw [List.length_set]; exact hm)).mono fun a ha => ?_
    rw [ha, List.take_succ_eq_append_getElem (by rw [List.length_set]; omega), List.getElem_set_self, List.take_set_of_le (by omega), List.append_assoc, List.drop_eq_getElem_cons hlt]
    rfl
theorem toStmtSS_ev (l : List (List S113)) (hc : cntSS l ≤ 1048576) : EvP (fun k => laws_toStmtSS.f k l) (· = trSS l) := by
  have hl := cntSS_length l
  unfold laws_toStmtSS.f
  refine EvP.yes (by omega) (EvP.yes (by omega) ?_)
  exact toStmtSS_l0 l (by omega) (fun x hx => by have := cntSS_mem l x hx; omega) l.length 0 _ (by omega) (by rw [List.length_replicate]; omega)
theorem toProgram_ev (rs : List Int) (ts : List (List S113)) (hr : rs.length ≤ 1048576) (hc : cntSS ts ≤ 1048576) : EvP (fun k => laws_toProgram.f k rs ts) (· = (rs, trSS ts)) := by
  unfold laws_toProgram.f
  exact EvP.bindEq (toIntS_ev rs (by omega)) (EvP.bindEq (toStmtSS_ev ts hc) (EvP.ret rfl))
theorem eqStmtSS_l0 (l : List (List S113)) (hl : l.length ≤ 1048576) (he : ∀ x ∈ l, cntSs x ≤ 1048576) :
    ∀ (d j : Nat), j + d = l.length → EvP (fun k => laws_eqStmtSS.l0 k (trSS l) (trSS l) (j : Int)) (· = true) := by
  intro d
  have hlen : (trSS l).length = l.length := List.length_map ..
  induction d with
  | zero =>
    intro j hj
    exact EvP.step (fun k => laws_eqStmtSS.l0.eq_2 (k := k) ..) (EvP.no (by omega) (EvP.ret rfl))
  | succ d ih =>
    intro j hj
    have hlt : j < l.length := by omega
    refine EvP.step (fun k => laws_eqStmtSS.l0.eq_2 (k := k) ..) (EvP.yes (by omega) (EvP.yes (by omega) (EvP.yes (by omega) ?_)))
    rw [rdSS_nat _ j (by omega), w64 (n := (j : Int) + 1) (by omega) (by omega), show (trSS l)[j]'(by omega) = trSs l[j] from List.getElem_map ..]
    exact EvP.bindEq (eqStmtS_short _ (he _ (List.getElem_mem hlt))) (EvP.yes rfl (ih (j + 1) (by omega)))
theorem eqProgram_ev (rs : List Int) (ts : List (List S113)) (hr : rs.length ≤ 1048576) (hc : cntSS ts ≤ 1048576) : EvP (fun k => laws_eqProgram.f k rs (trSS ts) rs (trSS ts)) (· = true) := by
  have hl := cntSS_length ts
  unfold laws_eqProgram.f
  refine EvP.bindEq (eqIntS_ev rs rs (by omega)) (EvP.yes (by simp) (EvP.bindEq ?_ (EvP.yes rfl (EvP.ret rfl))))
  unfold laws_eqStmtSS.f
  exact EvP.yes rfl (eqStmtSS_l0 ts (by omega) (fun x hx => by have := cntSS_mem ts x hx; omega) ts.length 0 (by omega))
theorem smalls_trSS (ts : List (List S113)) (hc : cntSS ts ≤ 1048576) : Smalls (trSS ts) := by
 have hl := cntSS_length ts
 refine ⟨by rw [show (trSS ts).length = ts.length from List.length_map ..]; omega, fun t ht => ?_⟩
 obtain ⟨x, hx, rfl⟩ := List.mem_map.mp ht
 have h1 := cntSS_mem ts x hx
 have h2 := cSs_le x
 omega
end Go.Proofs.YtjamfkpgmkhbnaaGreatDoor.PA

namespace Go.Proofs.YtjamfkpgmkhbnaaGreatDoor.PA
open Go.RowKit Go.Proofs.YtjamfkpgmkhbnaaGreatDoorW.PrintWords Go.Proofs.YtjamfkpgmkhbnaaGreatDoorW.PrintMore Go.Proofs.YtjamfkpgmkhbnaaGreatDoor.Core
theorem etaS (a : S58) : (⟨a.f0, a.f1, a.f2, a.f3, a.f4, a.f5⟩ : S58) = a := by
 cases a
 rfl
inductive ST where
 | mk (kd va bx : Int) (x : X) (b e : List ST)
namespace ST
def kd : ST → Int | ⟨a, _, _, _, _, _⟩ => a
def va : ST → Int | ⟨_, a, _, _, _, _⟩ => a
def bx : ST → Int | ⟨_, _, a, _, _, _⟩ => a
def x : ST → X | ⟨_, _, _, a, _, _⟩ => a
def b : ST → List ST | ⟨_, _, _, _, a, _⟩ => a
def e : ST → List ST | ⟨_, _, _, _, _, a⟩ => a
end ST
mutual
def embT : ST → S58
 | ⟨kd, va, bx, x, b, e⟩ => ⟨kd, va, bx, emb x, embTs b, embTs e⟩
def embTs : List ST → List S58
 | [] => []
 | s :: ss => embT s :: embTs ss
end
theorem embT_f (t : ST) : embT t = ⟨t.kd, t.va, t.bx, emb t.x, embTs t.b, embTs t.e⟩ := by
 cases t
 rw [embT]
 rfl
theorem embTs_length : ∀ l : List ST, (embTs l).length = l.length
 | [] => by rw [embTs]; rfl
 | x :: xs => by rw [embTs, List.length_cons, List.length_cons, embTs_length xs]
theorem embTs_append : ∀ l m : List ST, embTs (l ++ m) = embTs l ++ embTs m
 | [], m => by rw [embTs]; rfl
 | x :: xs, m => by rw [List.cons_append, embTs, embTs, embTs_append xs m]; rfl
theorem embTs_get : ∀ (l : List ST) (i : Nat) (h : i < l.length), (embTs l)[i]'(by rw [embTs_length]; exact h) = embT l[i]
 | x :: xs, 0, _ => by simp [embTs]
 | x :: xs, i + 1, h => by
  have h2 := embTs_get xs i (by simpa using h)
  simp only [embTs, List.getElem_cons_succ]
  exact h2
theorem ind_ST {P : ST → Prop} (h : ∀ t : ST, (∀ y ∈ t.b, P y) → (∀ y ∈ t.e, P y) → P t) (t : ST) : P t :=
 @ST.rec (motive_1 := P) (motive_2 := fun l => ∀ y ∈ l, P y) (fun a b c d m n i1 i2 => h ⟨a, b, c, d, m, n⟩ i1 i2) (fun y hy => by simp at hy) (fun y ys h1 h2 z hz => by
  rcases List.mem_cons.1 hz with rfl | hz
  ·exact h1
  ·exact h2 z hz) t
inductive AX : ST → Prop
 | mk (t : ST) (h1 : t.x.ok) (h2 : t.x.depth ≤ 5) (hb : ∀ y ∈ t.b, AX y) (he : ∀ y ∈ t.e, AX y) : AX t
theorem of_okOne (boxes : Int) : ∀ (d : Nat) (s : S58), okOne boxes d s = true → ∃ t, embT t = s ∧ AX t := by
 have ex : ∀ s : S58, stS boxes s = true → ∃ x : X, emb x = s.f3 ∧ x.ok ∧ x.depth ≤ 5 := by
  intro s h
  have hv : vx 5 s.f3.f0 s.f3.f1 s.f3.f2 = true ∨ plainOk s.f3.f0 s.f3.f1 s.f3.f2 = true := by
   unfold stS stOk restOk at h
   repeat' split at h
   all_goals first
    | (cases h; done)
    | (simp only [Bool.and_eq_true] at h; first | exact .inl h.2.2.1 | exact .inr h.2.2.1)
    | skip
   all_goals simp_all
  rcases hv with hv | hv
  ·obtain ⟨x, h1, h2, h3⟩ := vx_tree 5 _ _ _ hv
   exact ⟨x, h3.trans (etaE _), h1, h2⟩
  ·unfold plainOk at hv
   simp only [Bool.and_eq_true, beq_iff_eq] at hv
   refine ⟨.num 0, ?_, ⟨by omega, by omega⟩, by simp [X.depth]⟩
   rw [emb, ← etaE s.f3, hv.1, hv.2.1, List.eq_nil_of_length_eq_zero hv.2.2]
 have mk : ∀ (s : S58), stS boxes s = true → (∃ l, embTs l = s.f4 ∧ ∀ y ∈ l, AX y) → (∃ l, embTs l = s.f5 ∧ ∀ y ∈ l, AX y) → ∃ t, embT t = s ∧ AX t := by
  rintro s h ⟨l, h4, a4⟩ ⟨m, h5, a5⟩
  obtain ⟨x, hx, hok, hd⟩ := ex s h
  refine ⟨⟨s.f0, s.f1, s.f2, x, l, m⟩, ?_, .mk _ hok hd a4 a5⟩
  rw [embT, hx, h4, h5]
  exact etaS s
 have nils : ∀ s : S58, stS boxes s = true → isBlk s = false → (∃ l, embTs l = s.f4 ∧ ∀ y ∈ l, AX y) ∧ (∃ l, embTs l = s.f5 ∧ ∀ y ∈ l, AX y) := by
  intro s h hb
  have hf := flat_cS h (fun e => by rw [(isBlk_iff s).mpr e] at hb; cases hb)
  rw [cS_f] at hf
  have l4 := cSs_length s.f4
  have l5 := cSs_length s.f5
  rw [List.eq_nil_of_length_eq_zero (show s.f4.length = 0 by omega), List.eq_nil_of_length_eq_zero (show s.f5.length = 0 by omega)]
  exact ⟨⟨[], by rw [embTs], by simp⟩, ⟨[], by rw [embTs], by simp⟩⟩
 intro d
 induction d with
 | zero =>
  intro s h
  simp only [okOne, Bool.and_eq_true] at h
  obtain ⟨n4, n5⟩ := nils s h.1 (by simpa using h.2)
  exact mk s h.1 n4 n5
 | succ d ih =>
  intro s h
  have lists : ∀ l : List S58, l.all (okOne boxes d) = true → ∃ m, embTs m = l ∧ ∀ y ∈ m, AX y := by
   intro l
   induction l with
   | nil => exact fun _ => ⟨[], by rw [embTs], by simp⟩
   | cons y ys ihl =>
    intro h
    rw [List.all_cons, Bool.and_eq_true] at h
    obtain ⟨t, ht, at_⟩ := ih y h.1
    obtain ⟨m, hm, am⟩ := ihl h.2
    refine ⟨t :: m, by rw [embTs, ht, hm], fun z hz => ?_⟩
    rcases List.mem_cons.1 hz with rfl | hz
    ·exact at_
    ·exact am z hz
  simp only [okOne, Bool.and_eq_true, Bool.or_eq_true] at h
  cases hb : isBlk s with
  | false =>
   obtain ⟨n4, n5⟩ := nils s h.1 hb
   exact mk s h.1 n4 n5
  | true =>
   rw [hb] at h
   rcases h.2 with h2 | h2
   ·cases h2
   ·exact mk s h.1 (lists _ h2.1) (lists _ h2.2)
theorem of_okL (boxes : Int) (d : Nat) : ∀ l : List S58, okL boxes d l = true → ∃ m, embTs m = l ∧ ∀ y ∈ m, AX y
 | [], _ => ⟨[], by rw [embTs], by simp⟩
 | y :: ys, h => by
  have h' : (okOne boxes d y && okL boxes d ys) = true := h
  rw [Bool.and_eq_true] at h'
  obtain ⟨t, ht, at_⟩ := of_okOne boxes d y h'.1
  obtain ⟨m, hm, am⟩ := of_okL boxes d ys h'.2
  refine ⟨t :: m, by rw [embTs, ht, hm], fun z hz => ?_⟩
  rcases List.mem_cons.1 hz with rfl | hz
  ·exact at_
  ·exact am z hz
def cT (l : List ST) : Nat := cSs (embTs l)
theorem cT_append (l m : List ST) : cT (l ++ m) = cT l + cT m := by
 unfold cT
 rw [embTs_append, cSs_append]
theorem cT_one (t : ST) : cT [t] = cT t.b + cT t.e + 1 := by
 unfold cT
 rw [embTs, embTs, cSs_one, embT_f, cS_f]
theorem cT_cons (t : ST) (l : List ST) : cT (t :: l) = cT t.b + cT t.e + 1 + cT l := by
 rw [show t :: l = [t] ++ l from rfl, cT_append, cT_one]
end Go.Proofs.YtjamfkpgmkhbnaaGreatDoor.PA

namespace Go.Proofs.YtjamfkpgmkhbnaaGreatDoor.PA
open Go.RowKit Go.Proofs.YtjamfkpgmkhbnaaGreatDoor.Core Go.Proofs.YtjamfkpgmkhbnaaGreatDoorW.PrintWords
def ba (l : List UInt8) : ByteArray := ⟨l.toArray⟩
theorem ba_size (l : List UInt8) : (ba l).size = l.length := by simp [ba, ByteArray.size]
theorem ba_data (l : List UInt8) : (ba l).data.toList = l := by simp [ba]
theorem ba_eta (s : ByteArray) : ba s.data.toList = s := by
 cases s
 simp [ba]
theorem ba_of {s t : ByteArray} (h : s.data.toList = t.data.toList) : s = t := by rw [← ba_eta s, h, ba_eta]
theorem ba_append (l m : List UInt8) : ba l ++ ba m = ba (l ++ m) := ba_of (by simp [ba])
theorem ba_extract (l : List UInt8) (i j : Nat) : (ba l).extract i j = ba ((l.take j).drop i) := ba_of (by
 simp only [ba, ByteArray.data_extract, Array.toList_extract, List.extract_eq_take_drop]
 rw [List.drop_take])
theorem ba_bt (l : List UInt8) (i : Nat) (h : i < l.length) : bt (ba l) (i : Int) = (l[i].toNat : Int) := by
 unfold bt
 rw [dif_pos (by rw [Int.toNat_natCast, ba_size]; exact h)]
 simp [ba, ByteArray.getElem_eq_getElem_data]
theorem toList_loop (s : ByteArray) : ∀ (d i : Nat) (r : List UInt8), i + d = s.size → ByteArray.toList.loop s i r = r.reverse ++ s.data.toList.drop i
 | 0, i, r, h => by
  rw [ByteArray.toList.loop, if_neg (by omega), List.drop_eq_nil_of_le (by show s.size ≤ i; omega), List.append_nil]
 | d + 1, i, r, h => by
  have hi : i < s.data.toList.length := by show i < s.size; omega
  rw [ByteArray.toList.loop, if_pos (by omega), toList_loop s d (i + 1) _ (by omega), List.drop_eq_getElem_cons hi, List.reverse_cons, List.append_assoc]
  congr 1
  simp only [List.singleton_append, List.cons.injEq, and_true]
  show s.data[i]! = _
  exact getElem!_pos s.data i hi
theorem toList_data (s : ByteArray) : s.toList = s.data.toList := by
 unfold ByteArray.toList
 rw [toList_loop s s.size 0 [] (by omega)]
 rfl
theorem ba_toList (l : List UInt8) : (ba l).toList = l := by rw [toList_data, ba_data]
theorem toList_inj {s t : ByteArray} : s.toList = t.toList ↔ s = t := by
 rw [toList_data, toList_data]
 exact ⟨ba_of, fun h => by rw [h]⟩
def isD (c : UInt8) : Bool := decide (48 ≤ c.toNat) && decide (c.toNat ≤ 57)
def isL (c : UInt8) : Bool := decide (97 ≤ c.toNat) && decide (c.toNat ≤ 122)
def syms : List (List UInt8) := [[61, 61], [60, 60], [62, 62], [124], [94], [38], [60], [43], [45], [42], [47], [37], [40], [41], [123], [125], [61], [59]]
inductive Tok : List UInt8 → Prop
 | dig (c : UInt8) (t : List UInt8) (h : ∀ x ∈ c :: t, isD x = true) : Tok (c :: t)
 | let_ (c : UInt8) (t : List UInt8) (h : ∀ x ∈ c :: t, isL x = true) : Tok (c :: t)
 | sym (t : List UInt8) (h : t ∈ syms) : Tok t
def Rest (r : List UInt8) : Prop := r = [] ∨ ∃ q, r = 32 :: q
theorem Tok.pos {t : List UInt8} (h : Tok t) : 0 < t.length := by
 cases h with
 | dig => simp
 | let_ => simp
 | sym t h =>
  simp only [syms, List.mem_cons, List.not_mem_nil, or_false] at h
  rcases h with h | h | h | h | h | h | h | h | h | h | h | h | h | h | h | h | h | h <;> subst h <;> decide
def joinT : List (List UInt8) → List UInt8
 | [] => []
 | [x] => x
 | x :: y :: r => x ++ 32 :: joinT (y :: r)
theorem joinT_lib : ∀ l : List (List UInt8), Lib.join l [32] = joinT l
 | [] => rfl
 | [x] => Lib.join_one x _
 | x :: y :: r => by
  rw [Lib.join_cons, joinT, ← joinT_lib (y :: r), Lib.join_cons]
  simp [Lib.joinTail]
theorem joinT_cons (x : List UInt8) {l : List (List UInt8)} (h : l ≠ []) : joinT (x :: l) = x ++ 32 :: joinT l := by
 cases l with
 | nil => exact absurd rfl h
 | cons y r => rfl
theorem joinT_append {l m : List (List UInt8)} (hl : l ≠ []) (hm : m ≠ []) : joinT (l ++ m) = joinT l ++ 32 :: joinT m := by
 induction l with
 | nil => exact absurd rfl hl
 | cons x r ih =>
  cases r with
  | nil => rw [List.singleton_append, joinT_cons x hm]; rfl
  | cons y q =>
   rw [List.cons_append, joinT_cons x (by simp), ih (by simp), joinT_cons x (by simp)]
   simp
theorem decDigits_isD (u : Nat) : ∀ c ∈ Lib.decDigits u, isD c = true := by
 induction u using Nat.strongRecOn with
 | _ u ih =>
  intro c hc
  rw [Lib.decDigits] at hc
  split at hc
  ·rw [List.mem_singleton] at hc
   subst hc
   have : u = 0 ∨ u = 1 ∨ u = 2 ∨ u = 3 ∨ u = 4 ∨ u = 5 ∨ u = 6 ∨ u = 7 ∨ u = 8 ∨ u = 9 := by omega
   rcases this with h | h | h | h | h | h | h | h | h | h <;> subst h <;> decide
  ·rcases List.mem_append.1 hc with h | h
   ·exact ih _ (by omega) c h
   ·rw [List.mem_singleton] at h
    subst h
    have : u % 10 = 0 ∨ u % 10 = 1 ∨ u % 10 = 2 ∨ u % 10 = 3 ∨ u % 10 = 4 ∨ u % 10 = 5 ∨ u % 10 = 6 ∨ u % 10 = 7 ∨ u % 10 = 8 ∨ u % 10 = 9 := by omega
    rcases this with h | h | h | h | h | h | h | h | h | h <;> rw [h] <;> decide
theorem decDigits_pos (u : Nat) : 0 < (Lib.decDigits u).length := by
 rw [Lib.decDigits]
 split
 ·exact Nat.one_pos
 ·simp
theorem decDigits_len (d : Nat) : ∀ u : Nat, u < 10 ^ (d + 1) → (Lib.decDigits u).length ≤ d + 1 := by
 induction d with
 | zero =>
  intro u hu
  rw [Lib.decDigits, dif_pos (by omega)]
  exact Nat.le_refl _
 | succ d ih =>
  intro u hu
  rw [Lib.decDigits]
  split
  ·simp
  ·have := ih (u / 10) (by rw [Nat.pow_succ] at hu; omega)
   simp only [List.length_append, List.length_singleton]
   omega
def dec (n : Int) : List UInt8 := Lib.decDigits n.toNat
theorem dec_tok (n : Int) : Tok (dec n) := by
 have h := decDigits_isD n.toNat
 have h0 := decDigits_pos n.toNat
 unfold dec
 cases hd : Lib.decDigits n.toNat with
 | nil => rw [hd] at h0; simp at h0
 | cons c t => rw [hd] at h; exact .dig c t h
theorem dec_len {n : Int} (h0 : 0 ≤ n) (h : n ≤ 99999) : (dec n).length ≤ 5 := decDigits_len 4 n.toNat (by omega)
theorem dec_itoa {n : Int} (h : 0 ≤ n) : Lib.itoa n = dec n := by
 unfold Lib.itoa dec
 rw [if_neg (by omega)]
def lev (op : Int) : Int := if op ≤ 6 then op else if op = 7 then 6 else if op ≤ 9 then 7 else 8
def opB (op : Int) : List UInt8 := [[124], [94], [38], [61, 61], [60], [60, 60], [62, 62], [43], [45], [42], [47], [37]].getD (op - 1).toNat []
theorem opB_tok {op : Int} (h : 1 ≤ op ∧ op ≤ 12) : Tok (opB op) := by
 have : op = 1 ∨ op = 2 ∨ op = 3 ∨ op = 4 ∨ op = 5 ∨ op = 6 ∨ op = 7 ∨ op = 8 ∨ op = 9 ∨ op = 10 ∨ op = 11 ∨ op = 12 := by omega
 apply Tok.sym
 rcases this with h | h | h | h | h | h | h | h | h | h | h | h <;> subst h <;> decide
def varB (v : Int) : List UInt8 := [(97 + v).toNat.toUInt8]
theorem varB_tok {v : Int} (h : 0 ≤ v ∧ v < 4) : Tok (varB v) := by
 have : v = 0 ∨ v = 1 ∨ v = 2 ∨ v = 3 := by omega
 rcases this with h | h | h | h <;> subst h <;> exact .let_ _ _ (by decide)
def wrapT (l : List (List UInt8)) (b : Bool) : List (List UInt8) := if b = true then [40] :: (l ++ [[41]]) else l
namespace X
def lev : X → Int
 | num _ => 9
 | var _ => 9
 | bin op _ _ => PA.lev op
def toks : X → List (List UInt8)
 | num n => [dec n]
 | var v => [varB v]
 | bin op a b => wrapT a.toks (decide (a.lev < PA.lev op)) ++ opB op :: wrapT b.toks (decide (b.lev ≤ PA.lev op))
end X
theorem wrapT_tok {l : List (List UInt8)} {b : Bool} (h : ∀ t ∈ l, Tok t) : ∀ t ∈ wrapT l b, Tok t := by
 unfold wrapT
 split
 ·intro t ht
  rcases List.mem_cons.1 ht with h1 | h1
  ·subst h1
   exact .sym _ (by decide)
  ·rcases List.mem_append.1 h1 with h2 | h2
   ·exact h t h2
   ·rw [List.mem_singleton] at h2
    subst h2
    exact .sym _ (by decide)
 ·exact h
theorem toks_tok : ∀ x : X, x.ok → ∀ t ∈ x.toks, Tok t
 | .num n, h => by
  intro t ht
  rw [X.toks, List.mem_singleton] at ht
  subst ht
  exact dec_tok n
 | .var v, h => by
  intro t ht
  rw [X.toks, List.mem_singleton] at ht
  subst ht
  exact varB_tok h
 | .bin op a b, h => by
  intro t ht
  rw [X.toks] at ht
  rcases List.mem_append.1 ht with h1 | h1
  ·exact wrapT_tok (toks_tok a h.2.1) t h1
  ·rcases List.mem_cons.1 h1 with h2 | h2
   ·subst h2
    exact opB_tok h.1
   ·exact wrapT_tok (toks_tok b h.2.2) t h2
theorem wrapT_len (l : List (List UInt8)) (b : Bool) : (wrapT l b).length ≤ l.length + 2 := by
 unfold wrapT
 split
 ·simp
 ·omega
theorem toks_len : ∀ x : X, x.toks.length + 4 ≤ 5 * x.size
 | .num _ => by simp [X.toks, X.size]
 | .var _ => by simp [X.toks, X.size]
 | .bin op a b => by
  have h1 := wrapT_len a.toks (decide (a.lev < lev op))
  have h2 := wrapT_len b.toks (decide (b.lev ≤ lev op))
  have h3 := toks_len a
  have h4 := toks_len b
  rw [X.toks, List.length_append, List.length_cons, X.size]
  omega
end Go.Proofs.YtjamfkpgmkhbnaaGreatDoor.PA

namespace Go.Proofs.YtjamfkpgmkhbnaaGreatDoor.PA
open Go.RowKit Go.Proofs.YtjamfkpgmkhbnaaGreatDoorW.PrintWords Go.Proofs.YtjamfkpgmkhbnaaGreatDoorW.PrintMore Go.Proofs.YtjamfkpgmkhbnaaGreatDoor.Core
theorem impl_isDigit_eq (c : UInt8) : impl_isDigit.f (c.toNat : Int) = some (isD c) := by
 unfold impl_isDigit.f isD
 by_cases h : ((c.toNat : Int)) ≥ 48
 ·rw [if_pos h, decide_eq_true (show 48 ≤ c.toNat by omega), Bool.true_and]
  congr 1
  exact decide_eq_decide.mpr (by omega)
 ·rw [if_neg h, decide_eq_false (show ¬ 48 ≤ c.toNat by omega), Bool.false_and]
theorem impl_isLetter_eq (c : UInt8) : impl_isLetter.f (c.toNat : Int) = some (isL c) := by
 unfold impl_isLetter.f isL
 by_cases h : ((c.toNat : Int)) ≥ 97
 ·rw [if_pos h, decide_eq_true (show 97 ≤ c.toNat by omega), Bool.true_and]
  congr 1
  exact decide_eq_decide.mpr (by omega)
 ·rw [if_neg h, decide_eq_false (show ¬ 97 ≤ c.toNat by omega), Bool.false_and]
def isM (m : Bool) (c : UInt8) : Bool := if m = true then isD c else isL c
theorem isM_eq (m : Bool) (c : UInt8) : (if m = true then impl_isDigit.f (c.toNat : Int) else impl_isLetter.f (c.toNat : Int)) = some (isM m c) := by
 cases m
 ·rw [if_neg Bool.false_ne_true, impl_isLetter_eq]
  rfl
 ·rw [if_pos rfl, impl_isDigit_eq]
  rfl
theorem l1_ev (l : List UInt8) (hl : l.length ≤ 1000000000) (m : Bool) : ∀ (d j : Nat), j + d = l.length → EvP (fun k => impl_tokenLength.l1 k (ba l) m (j : Int)) (· = ((j + ((l.drop j).takeWhile (isM m)).length : Nat) : Int))
  | 0, j, h => by
    refine EvP.step (fun k => impl_tokenLength.l1.eq_2 (k := k) ..) (EvP.no (by rw [ba_size]; omega) (EvP.ret ?_))
    rw [List.drop_eq_nil_of_le (by omega)]
    simp
  | d + 1, j, h => by
    have hj : j < l.length := by omega
    refine EvP.step (fun k => impl_tokenLength.l1.eq_2 (k := k) ..) (EvP.yes (by rw [ba_size]; omega) (EvP.yes (by omega) ?_))
    rw [ba_bt l j hj]
    refine EvP.bind0 (isM_eq m l[j]) ?_
    rw [List.drop_eq_getElem_cons hj]
    cases hm : isM m l[j] with
    | true =>
      refine EvP.yes rfl ?_
      rw [w64 (by omega) (by omega), show (j : Int) + 1 = ((j + 1 : Nat) : Int) by omega]
      refine (l1_ev l hl m d (j + 1) (by omega)).mono (fun a ha => ?_)
      rw [ha, List.takeWhile_cons, if_pos hm, List.length_cons]
      congr 1
      omega
    | false =>
      refine EvP.no Bool.false_ne_true (EvP.ret ?_)
      rw [List.takeWhile_cons, if_neg (by rw [hm]; exact Bool.false_ne_true)]
      simp
theorem l1_0 (l : List UInt8) (hl : l.length ≤ 1000000000) (m : Bool) : EvP (fun k => impl_tokenLength.l1 k (ba l) m 0) (· = ((l.takeWhile (isM m)).length : Int)) :=
  (l1_ev l hl m l.length 0 (by omega)).mono (fun a ha => by rw [ha]; simp)
theorem takeWhile_run {p : UInt8 → Bool} {t r : List UInt8} (ht : ∀ x ∈ t, p x = true) (hr : Rest r) (h32 : p 32 = false) : (t ++ r).takeWhile p = t := by
 rw [List.takeWhile_append_of_pos ht]
 rcases hr with rfl | ⟨q, rfl⟩
 ·simp
 ·rw [List.takeWhile_cons, if_neg (by rw [h32]; exact Bool.false_ne_true), List.append_nil]
theorem takeWhile_no {p : UInt8 → Bool} {c : UInt8} {t : List UInt8} (h : p c = false) : (c :: t).takeWhile p = [] := by
 rw [List.takeWhile_cons, if_neg (by rw [h]; exact Bool.false_ne_true)]
theorem isL_isD {c : UInt8} (h : isL c = true) : isD c = false := by
 unfold isL at h
 unfold isD
 simp only [Bool.and_eq_true, decide_eq_true_eq] at h
 rw [decide_eq_false (p := c.toNat ≤ 57) (by omega), Bool.and_false]
def pre2 (c : UInt8) : List UInt8 → Bool
 | a :: b :: _ => a == c && b == c
 | _ => false
theorem hasPrefix2 (l : List UInt8) (c : UInt8) (hl : l.length ≤ 1000000000) : strings_HasPrefix.f (ba l) ⟨#[c, c]⟩ = some (pre2 c l) := by
 unfold strings_HasPrefix.f stringslite_HasPrefix.f
 have hs : (⟨#[c, c]⟩ : ByteArray).size = 2 := rfl
 rw [hs, ba_size]
 by_cases h : (l.length : Int) ≥ ((2 : Nat) : Int)
 ·rw [if_pos h, if_pos (by omega), if_pos h]
  simp only [Option.bind_some]
  congr 1
  match l, h with
  | a :: b :: r, _ =>
   have e : (ba (a :: b :: r)).extract 0 (((2 : Nat) : Int) : Int).toNat = ba [a, b] := by
    rw [ba_extract]
    rfl
   rw [e, ba_toList, show (⟨#[c, c]⟩ : ByteArray) = ba [c, c] from rfl, ba_toList]
   simp [pre2]
  | [a], h => simp at h
  | [], h => simp at h
 ·rw [if_neg h]
  simp only [Option.bind_some]
  congr 1
  match l, h with
  | a :: b :: r, h => simp at h; omega
  | [a], _ => rfl
  | [], _ => rfl
theorem ba_ne (c : UInt8) (q : List UInt8) : ¬ (ba (c :: q)).toList = ([] : List UInt8) := by
 rw [ba_toList]
 simp
theorem ba_bt0 (c : UInt8) (q : List UInt8) : bt (ba (c :: q)) 0 = (c.toNat : Int) := ba_bt (c :: q) 0 (by simp)
theorem st2_sym (t r : List UInt8) (hl : (t ++ r).length ≤ 1000000000) (ht : t ∈ syms) (hr : Rest r) : impl_tokenLength.st2 (ba (t ++ r)) 0 = some (t.length : Int) := by
 simp only [impl_tokenLength.st2, impl_tokenLength.fin, hasPrefix2 _ _ hl, Option.bind_some]
 clear hl
 simp only [syms, List.mem_cons, List.not_mem_nil, or_false] at ht
 rcases hr with rfl | ⟨q, rfl⟩
 all_goals
  rcases ht with h | h | h | h | h | h | h | h | h | h | h | h | h | h | h | h | h | h <;> subst h
 all_goals
  simp only [List.cons_append, List.nil_append, List.append_nil]
 all_goals
  first
  | (simp [pre2]; done)
  | (rw [if_neg (by simp [pre2]), if_neg (by simp [pre2]), if_neg (by simp [pre2]), if_neg (ba_ne _ _), ba_bt0]; rfl)
theorem syms_no {t r : List UInt8} (ht : t ∈ syms) (m : Bool) : (t ++ r).takeWhile (isM m) = [] := by
 simp only [syms, List.mem_cons, List.not_mem_nil, or_false] at ht
 rcases ht with h | h | h | h | h | h | h | h | h | h | h | h | h | h | h | h | h | h <;> subst h <;> exact takeWhile_no (by cases m <;> decide)
theorem tokenLength_ev (t r : List UInt8) (hl : (t ++ r).length ≤ 1000000000) (ht : Tok t) (hr : Rest r) : EvP (fun k => impl_tokenLength.f k (ba (t ++ r))) (· = (t.length : Int)) := by
  have h0 := ht.pos
  show EvP (fun k => (impl_tokenLength.l1 k (ba (t ++ r)) true 0).bind fun d => if 0 < d then some d else (impl_tokenLength.l1 k (ba (t ++ r)) false 0).bind fun c => if 0 < c then some c else impl_tokenLength.st2 (ba (t ++ r)) 0) _
  refine EvP.bindEq (l1_0 _ hl true) ?_
  cases ht with
  | dig c t h =>
    rw [takeWhile_run (p := isM true) h hr (by decide)]
    exact EvP.yes (by omega) (EvP.ret rfl)
  | let_ c t h =>
    rw [List.cons_append, takeWhile_no (p := isM true) (isL_isD (h c (by simp))), ← List.cons_append]
    refine EvP.no (by simp) (EvP.bindEq (l1_0 _ hl false) ?_)
    rw [takeWhile_run (p := isM false) h hr (by decide)]
    exact EvP.yes (by omega) (EvP.ret rfl)
  | sym t h =>
    rw [syms_no h]
    refine EvP.no (by simp) (EvP.bindEq (l1_0 _ hl false) ?_)
    rw [syms_no h]
    exact EvP.no (by simp) (EvP.of (st2_sym t r hl h hr) rfl)
theorem TokenValid_ev (t : List UInt8) (hl : t.length ≤ 1000000000) (ht : Tok t) : EvP (fun k => impl_TokenValid.f k (ba t)) (· = true) := by
  unfold impl_TokenValid.f
  have h := tokenLength_ev t [] (by simpa using hl) ht (.inl rfl)
  rw [List.append_nil] at h
  have h0 := ht.pos
  refine EvP.no (by rw [ba_toList]; intro e; rw [e] at h0; simp at h0) (EvP.bindEq h (EvP.ret ?_))
  rw [ba_size]
  simp
theorem rdB (L : List (List UInt8)) (j : Nat) (h : j < L.length) : rdOf ByteArray.empty (L.map ba) (j : Int) = ba L[j] := by
 unfold rdOf
 rw [Int.toNat_natCast, List.getD_eq_getElem?_getD, List.getElem?_map, List.getElem?_eq_getElem h]
 rfl
theorem TokensText_l0 (L : List (List UInt8)) (hn : L.length ≤ 1000000) (hs : ∀ t ∈ L, t.length ≤ 1000000) (ht : ∀ t ∈ L, Tok t) (hj : (joinT L).length ≤ 1000000000) : ∀ (d j : Nat), j + d = L.length → EvP (fun k => impl_TokensText.l0 k (L.map ba) (L.map ba) ((L.map ba).length : Int) (j : Int)) (· = ba (joinT L))
  | 0, j, h => by
    refine EvP.step (fun k => impl_TokensText.l0.eq_2 (k := k) ..) (EvP.no (by rw [List.length_map]; omega) ?_)
    have e : strings_Join.f (L.map ba) (⟨#[32]⟩ : ByteArray) = some (ba (joinT L)) := by
      unfold strings_Join.f
      have e2 : joinB (L.map ba) (⟨#[32]⟩ : ByteArray) = joinT L := by
        unfold joinB
        rw [List.map_map, show ((fun x : ByteArray => x.data.toList) ∘ ba) = id from funext ba_data, List.map_id]
        exact joinT_lib L
      rw [e2, if_pos (by rw [List.length_map]; omega), if_pos (by omega)]
      rfl
    exact EvP.bind0 e (EvP.ret rfl)
  | d + 1, j, h => by
    have hj' : j < L.length := by omega
    refine EvP.step (fun k => impl_TokensText.l0.eq_2 (k := k) ..) (EvP.yes (by rw [List.length_map]; omega) (EvP.yes (by omega) (EvP.yes (by rw [List.length_map]; omega) ?_)))
    rw [rdB L j hj']
    refine EvP.bindEq (TokenValid_ev _ (by have := hs L[j] (by simp); omega) (ht L[j] (by simp))) (EvP.yes rfl ?_)
    rw [w64 (by omega) (by omega), show (j : Int) + 1 = ((j + 1 : Nat) : Int) by omega]
    exact TokensText_l0 L hn hs ht hj d (j + 1) (by omega)
theorem impl_TokensText_ev (L : List (List UInt8)) (hn : L.length ≤ 1000000) (hs : ∀ t ∈ L, t.length ≤ 1000000) (ht : ∀ t ∈ L, Tok t) (hj : (joinT L).length ≤ 1000000000) : EvP (fun k => impl_TokensText.f k (L.map ba)) (· = ba (joinT L)) :=
  TokensText_l0 L hn hs ht hj L.length 0 (by omega)
theorem kindD {c : UInt8} (h : isD c = true) : EvP (fun k => spec_l3Kind.f k (c.toNat : Int)) (· = 1) := by
  unfold isD at h
  simp only [Bool.and_eq_true, decide_eq_true_eq] at h
  unfold spec_l3Kind.f
  refine EvP.yes (by omega) (EvP.step (fun k => spec_l3Kind.j0.eq_2 (k := k) ..) (EvP.yes (by rw [decide_eq_true_eq]; omega) (EvP.ret rfl)))
theorem kindL {c : UInt8} (h : isL c = true) : EvP (fun k => spec_l3Kind.f k (c.toNat : Int)) (· = 2) := by
  unfold isL at h
  simp only [Bool.and_eq_true, decide_eq_true_eq] at h
  unfold spec_l3Kind.f
  refine EvP.yes (by omega) (EvP.step (fun k => spec_l3Kind.j0.eq_2 (k := k) ..) (EvP.no (by rw [decide_eq_true_eq]; omega) (EvP.yes (by omega) ?_)))
  exact EvP.step (fun k => spec_l3Kind.j1.eq_2 (k := k) ..) (EvP.yes (by rw [decide_eq_true_eq]; omega) (EvP.ret rfl))
theorem l3Run_l0 (t : List UInt8) (hl : t.length ≤ 1000000000) (h0 : 0 < t.length) (n : Int) (hk : ∀ x ∈ t, EvP (fun k => spec_l3Kind.f k (x.toNat : Int)) (· = n)) : ∀ (d j : Nat), j + d = t.length → EvP (fun k => spec_l3Run.l0 k (ba t) 0 (j : Int)) (· = (t.length : Int))
  | 0, j, h => EvP.step (fun k => spec_l3Run.l0.eq_2 (k := k) ..) (EvP.no (by rw [ba_size]; omega) (EvP.ret (by omega)))
  | d + 1, j, h => by
    have hj : j < t.length := by omega
    refine EvP.step (fun k => spec_l3Run.l0.eq_2 (k := k) ..) (EvP.yes (by rw [ba_size]; omega) (EvP.yes (by omega) ?_))
    rw [ba_bt t j hj, show bt (ba t) 0 = (t[0].toNat : Int) from ba_bt t 0 h0]
    refine EvP.bindEq (hk _ (by simp)) (EvP.yes (by omega) (EvP.yes (by rw [ba_size]; omega) (EvP.bindEq (hk _ (by simp)) (EvP.yes rfl ?_))))
    rw [w64 (by omega) (by omega), show (j : Int) + 1 = ((j + 1 : Nat) : Int) by omega]
    exact l3Run_l0 t hl h0 n hk d (j + 1) (by omega)
theorem l3End_sym (t : List UInt8) (h : t ∈ syms) : EvP (fun k => spec_l3End.f k (ba t) 0) (· = (t.length : Int)) := by
  refine Ev.evp (Ev.of (spec_l3End.mono _ _) (k := 60) ?_)
  simp only [syms, List.mem_cons, List.not_mem_nil, or_false] at h
  rcases h with h | h | h | h | h | h | h | h | h | h | h | h | h | h | h | h | h | h <;> subst h <;> kernel_rfl
theorem l3End_ev (t : List UInt8) (hl : t.length ≤ 1000000000) (ht : Tok t) : EvP (fun k => spec_l3End.f k (ba t) 0) (· = (t.length : Int)) := by
  have h0 := ht.pos
  cases ht with
  | dig c t h =>
    unfold spec_l3End.f
    refine EvP.yes (by omega) (EvP.yes (by rw [ba_size]; omega) ?_)
    rw [ba_bt0]
    refine EvP.bindEq (kindD (h c (by simp))) (EvP.yes rfl (EvP.step (fun k => spec_l3End.j0.eq_2 (k := k) ..) (EvP.yes rfl (EvP.bindEq ?_ (EvP.ret rfl)))))
    exact l3Run_l0 (c :: t) hl h0 1 (fun x hx => kindD (h x hx)) (c :: t).length 0 (by omega)
  | let_ c t h =>
    unfold spec_l3End.f
    refine EvP.yes (by omega) (EvP.yes (by rw [ba_size]; omega) ?_)
    rw [ba_bt0]
    refine EvP.bindEq (kindL (h c (by simp))) (EvP.no (by omega) (EvP.step (fun k => spec_l3End.j0.eq_2 (k := k) ..) (EvP.yes rfl (EvP.bindEq ?_ (EvP.ret rfl)))))
    exact l3Run_l0 (c :: t) hl h0 2 (fun x hx => kindL (h x hx)) (c :: t).length 0 (by omega)
  | sym t h => exact l3End_sym t h
theorem spec_TokenValid_ev (t : List UInt8) (hl : t.length ≤ 1000000000) (ht : Tok t) : EvP (fun k => spec_TokenValid.f k (ba t)) (· = true) := by
  unfold spec_TokenValid.f
  have h0 := ht.pos
  refine EvP.no (by rw [ba_toList]; intro e; rw [e] at h0; simp at h0) (EvP.bindEq (l3End_ev t hl ht) (EvP.ret ?_))
  rw [ba_size]
  simp
theorem joinT_snoc {l : List (List UInt8)} (h : l ≠ []) (x : List UInt8) : joinT (l ++ [x]) = joinT l ++ 32 :: x := joinT_append h (by simp)
theorem joinT_take_len (L : List (List UInt8)) : ∀ j : Nat, (joinT (L.take j)).length ≤ (joinT L).length := by
 induction L with
 | nil => intro j; simp
 | cons x r ih =>
  intro j
  cases j with
  | zero => simp [joinT]
  | succ j =>
   rw [List.take_succ_cons]
   cases r with
   | nil => simp [joinT]
   | cons y q =>
    cases j with
    | zero => simp [joinT]
    | succ j =>
     have := ih (j + 1)
     rw [joinT_cons x (by simp), joinT_cons x (by simp)]
     simp only [List.length_append, List.length_cons] at this ⊢
     omega
theorem specText_l0 (L : List (List UInt8)) (hn : L.length ≤ 1000000) (hs : ∀ t ∈ L, t.length ≤ 1000000) (ht : ∀ t ∈ L, Tok t) (hj : (joinT L).length ≤ 1000000000) : ∀ (d j : Nat), j + d = L.length → EvP (fun k => spec_TokensText.l0 k (L.map ba) (ba (joinT (L.take j))) (j : Int)) (· = ba (joinT L))
  | 0, j, h => EvP.step (fun k => spec_TokensText.l0.eq_2 (k := k) ..) (EvP.no (by rw [List.length_map]; omega) (EvP.ret (by rw [List.take_of_length_le (by omega)])))
  | d + 1, j, h => by
    have hj' : j < L.length := by omega
    have h1 := joinT_take_len L j
    have h2 := hs L[j] (by simp)
    refine EvP.step (fun k => spec_TokensText.l0.eq_2 (k := k) ..) (EvP.yes (by rw [List.length_map]; omega) (EvP.yes (by omega) ?_))
    rw [rdB L j hj']
    refine EvP.bindEq (spec_TokenValid_ev _ (by omega) (ht L[j] (by simp))) (EvP.yes rfl ?_)
    have e1 : L.take (j + 1) = L.take j ++ [L[j]] := by rw [List.take_succ_eq_append_getElem hj']
    have ih := specText_l0 L hn hs ht hj d (j + 1) (by omega)
    rw [show ((j + 1 : Nat) : Int) = wrap64 ((j : Int) + 1) by rw [w64 (by omega) (by omega)]; omega] at ih
    refine EvP.ite (fun hp => ?_) (fun hp => ?_)
    · refine EvP.yes (by rw [ba_size]; omega) ?_
      rw [show (⟨#[32]⟩ : ByteArray) = ba [32] from rfl, ba_append]
      refine EvP.yes (by rw [ba_size, ba_size, List.length_append]; show _ + 1 + _ ≤ _; omega) ?_
      rw [ba_append]
      have e2 : joinT (L.take j) ++ [32] ++ L[j] = joinT (L.take (j + 1)) := by
        rw [e1, joinT_snoc (by intro e; have := congrArg List.length e; rw [List.length_take, List.length_nil] at this; omega)]
        simp
      rw [e2]
      exact ih
    · have hj0 : j = 0 := by omega
      subst hj0
      refine EvP.yes (by rw [ba_size, ba_size]; omega) ?_
      rw [ba_append]
      have e2 : joinT (L.take 0) ++ L[0] = joinT (L.take (0 + 1)) := by
        rw [e1]
        rfl
      rw [e2]
      exact ih
theorem spec_TokensText_ev (L : List (List UInt8)) (hn : L.length ≤ 1000000) (hs : ∀ t ∈ L, t.length ≤ 1000000) (ht : ∀ t ∈ L, Tok t) (hj : (joinT L).length ≤ 1000000000) : EvP (fun k => spec_TokensText.f k (L.map ba)) (· = ba (joinT L)) :=
  specText_l0 L hn hs ht hj L.length 0 (by omega)
theorem size_32 (x : X) (hd : x.depth ≤ 5) : x.size ≤ 31 := by
 have h1 := X.size_depth x
 have h2 : 2 ^ x.depth ≤ 2 ^ 5 := Nat.pow_le_pow_right (by omega) hd
 omega
end Go.Proofs.YtjamfkpgmkhbnaaGreatDoor.PA

namespace Go.Proofs.YtjamfkpgmkhbnaaGreatDoor.PA
open Go.RowKit Go.Proofs.YtjamfkpgmkhbnaaGreatDoorW.PrintWords Go.Proofs.YtjamfkpgmkhbnaaGreatDoor.Core
def Bytes (b : List Int) : Prop := b.length ≤ 2000 ∧ ∀ x ∈ b, 0 ≤ x ∧ x ≤ 255
theorem Bytes.rd {b : List Int} (h : Bytes b) (i : Int) (h0 : 0 ≤ i) (h1 : i < b.length) : 0 ≤ Go.Proofs.YtjamfkpgmkhbnaaGreatDoorW.PrintWords.rd b i ∧ Go.Proofs.YtjamfkpgmkhbnaaGreatDoorW.PrintWords.rd b i ≤ 255 := h.2 _ (rd_mem b i h0 h1)
end Go.Proofs.YtjamfkpgmkhbnaaGreatDoor.PA

namespace Go.Proofs.YtjamfkpgmkhbnaaGreatDoor.PA
open Go.RowKit Go.Proofs.YtjamfkpgmkhbnaaGreatDoorW.PrintWords Go.Proofs.YtjamfkpgmkhbnaaGreatDoorW.PrintMore Go.Proofs.YtjamfkpgmkhbnaaGreatDoor.Core
theorem Itoa_eq {n : Int} (h0 : 0 ≤ n) (h : n ≤ 99999) : strconv_Itoa_20.f n = some (ba (dec n)) := by
 unfold strconv_Itoa_20.f
 rw [if_pos h0, if_pos (by omega), dec_itoa h0]
 rfl
theorem impl_varText_eq {v : Int} (h : 0 ≤ v ∧ v < 4) : impl_varText.f v = some (ba (varB v)) := by
 unfold impl_varText.f
 rw [if_pos (by omega)]
 rfl
theorem ops12 {op : Int} (h : 1 ≤ op ∧ op ≤ 12) : op = 1 ∨ op = 2 ∨ op = 3 ∨ op = 4 ∨ op = 5 ∨ op = 6 ∨ op = 7 ∨ op = 8 ∨ op = 9 ∨ op = 10 ∨ op = 11 ∨ op = 12 := by omega
theorem impl_OpLevel_ev {op : Int} (h : 1 ≤ op ∧ op ≤ 12) : EvP (fun k => impl_OpLevel.f k op) (· = lev op) := by
  refine Ev.evp (Ev.of (impl_OpLevel.mono _) (k := 10) ?_)
  rcases ops12 h with h | h | h | h | h | h | h | h | h | h | h | h <;> subst h <;> first | rfl | kernel_rfl
theorem spec_OpLevel_eq {op : Int} (h : 1 ≤ op ∧ op ≤ 12) : spec_OpLevel.f op = some (lev op) := by
 rcases ops12 h with h | h | h | h | h | h | h | h | h | h | h | h <;> subst h <;> first | rfl | kernel_rfl
theorem impl_OpText_eq {op : Int} (h : 1 ≤ op ∧ op ≤ 12) : impl_OpText.f op = some (ba (opB op)) := by
 rcases ops12 h with h | h | h | h | h | h | h | h | h | h | h | h <;> subst h <;> first | rfl | kernel_rfl
theorem spec_OpText_eq {op : Int} (h : 1 ≤ op ∧ op ≤ 12) : spec_OpText.f op = some (ba (opB op)) := by
 rcases ops12 h with h | h | h | h | h | h | h | h | h | h | h | h <;> subst h <;> first | rfl | kernel_rfl
theorem lev_range {op : Int} (h : 1 ≤ op ∧ op ≤ 12) : 1 ≤ lev op ∧ lev op ≤ 8 := by
 rcases ops12 h with h | h | h | h | h | h | h | h | h | h | h | h <;> subst h <;> decide
theorem strOf1 {n : Int} (h0 : 0 ≤ n) (h : n < 10) : strOfNums (([(wrap64 (48 + n)) % 256] : List Int)) = ba [UInt8.ofNat (48 + n.toNat)] := by
 rw [w64 (by omega) (by omega), Int.emod_eq_of_lt (by omega) (by omega)]
 show ba [UInt8.ofNat (48 + n).toNat] = _
 rw [show (48 + n).toNat = 48 + n.toNat by omega]
theorem spec_l6Dec_ev : ∀ (m : Nat) (n : Int), n.toNat ≤ m → 0 ≤ n → n ≤ 1000000 → EvP (fun k => spec_l6Dec.f k n) (· = ba (dec n)) := by
  intro m
  induction m with
  | zero =>
    intro n hm h0 h1
    have : n = 0 := by omega
    subst this
    refine EvP.step (fun k => spec_l6Dec.f.eq_2 (k := k) ..) (EvP.no (by omega) (EvP.no (by omega) (EvP.yes (by omega) (EvP.ret ?_))))
    rw [strOf1 (by omega) (by omega)]
    unfold dec
    rw [Lib.decDigits, dif_pos (by decide)]
  | succ m ih =>
    intro n hm h0 h1
    refine EvP.step (fun k => spec_l6Dec.f.eq_2 (k := k) ..) (EvP.no (by omega) (EvP.no (by omega) (EvP.ite (fun h => EvP.ret ?_) (fun h => ?_))))
    · rw [strOf1 (by omega) (by omega)]
      unfold dec
      rw [Lib.decDigits, dif_pos (by omega)]
    · have hd : Int.tdiv n 10 = n / 10 := Int.tdiv_eq_ediv_of_nonneg h0
      have hr : Int.tmod n 10 = n % 10 := Int.tmod_eq_emod_of_nonneg h0
      rw [hd, hr, w64 (n := n / 10) (by omega) (by omega)]
      refine EvP.bindEq (ih (n / 10) (by omega) (by omega) (by omega)) (EvP.bind0 rfl ?_)
      rw [strOf1 (n := n % 10) (by omega) (by omega)]
      have hl : (dec (n / 10)).length ≤ 7 := decDigits_len 6 _ (by omega)
      refine EvP.yes (by rw [ba_size, ba_size]; show _ + 1 ≤ _; omega) (EvP.ret ?_)
      rw [ba_append]
      unfold dec
      rw [Lib.decDigits.eq_1 n.toNat, dif_neg (by omega), show (n / 10).toNat = n.toNat / 10 by omega, show (n % 10).toNat = n.toNat % 10 by omega]
theorem spec_l5Name_eq {v : Int} (h : 0 ≤ v ∧ v < 4) : spec_l5Name.f v = some (ba (varB v)) := by
 unfold spec_l5Name.f
 rw [w64 (by omega) (by omega), Int.emod_eq_of_lt (by omega) (by omega)]
 rfl
theorem spec_l5Wrap_eq (L : List (List UInt8)) (b : Bool) (hl : L.length ≤ 1000000) : spec_l5Wrap.f (L.map ba) b = some ((wrapT L b).map ba) := by
 unfold spec_l5Wrap.f wrapT
 cases b with
 | false => rw [if_neg Bool.false_ne_true, if_neg Bool.false_ne_true]
 | true =>
  rw [if_pos rfl, if_pos rfl]
  simp only [Option.bind_some]
  rw [if_pos (by rw [List.length_map]; show 1 + _ < _; omega)]
  rw [if_pos (by rw [List.length_append, List.length_map]; show 1 + _ < _; omega)]
  rw [List.map_cons, List.map_append]
  rfl
theorem spec_l5Level_eq {x : X} (h : x.ok) : spec_l5Level.f (emb x).f0 (emb x).f1 (emb x).f2 = some x.lev := by
 unfold spec_l5Level.f
 cases x with
 | num n => rfl
 | var v => rfl
 | bin op a b =>
  rw [if_neg (by simp [emb])]
  show ((spec_OpLevel.f op).bind fun t => some t) = _
  rw [spec_OpLevel_eq h.1]
  rfl
theorem impl_operandTokens_of {x : X} (h : x.ok) (hx : ∀ out : List ByteArray, out.length + 5 * x.size ≤ 1000000 → EvP (fun k => impl_exprTokens.f k (emb x).f0 (emb x).f1 (emb x).f2 out) (· = out ++ x.toks.map ba))
    (least : Int) (hl : least ≤ 9) (out : List ByteArray) (ho : out.length + 5 * x.size + 2 ≤ 1000000) : EvP (fun k => impl_operandTokens.f k (emb x).f0 (emb x).f1 (emb x).f2 least out) (· = out ++ (wrapT x.toks (decide (x.lev < least))).map ba) := by
  refine EvP.step (fun k => impl_operandTokens.f.eq_2 (k := k) ..) ?_
  have no : decide (x.lev < least) = false → EvP (fun k => impl_operandTokens.j0 k out true (emb x).f0 (emb x).f1 (emb x).f2) (· = out ++ (wrapT x.toks (decide (x.lev < least))).map ba) := by
    intro hd
    rw [hd]
    exact EvP.step (fun k => impl_operandTokens.j0.eq_2 (k := k) ..) (EvP.yes rfl (EvP.bindEq (hx out (by omega)) (EvP.ret rfl)))
  cases x with
  | num n => exact EvP.bind0 (impl_OpValid_eq 0) (EvP.no (by decide) (no (decide_eq_false (by show ¬ (9 : Int) < least; omega))))
  | var v => exact EvP.bind0 (impl_OpValid_eq 13) (EvP.no (by decide) (no (decide_eq_false (by show ¬ (9 : Int) < least; omega))))
  | bin op a b =>
    have h1 := h.1
    refine EvP.bind0 (impl_OpValid_eq op) (EvP.yes (by simp [h1.1, h1.2]) (EvP.bindEq (impl_OpLevel_ev h1) ?_))
    show EvP (fun n => impl_operandTokens.j0 n out (decide (lev op ≥ least)) (emb (X.bin op a b)).f0 (emb (X.bin op a b)).f1 (emb (X.bin op a b)).f2) _
    by_cases hc : lev op < least
    · rw [decide_eq_false (show ¬ lev op ≥ least by omega)]
      rw [show decide ((X.bin op a b).lev < least) = true from decide_eq_true hc]
      refine EvP.step (fun k => impl_operandTokens.j0.eq_2 (k := k) ..) (EvP.no Bool.false_ne_true (EvP.yes (by omega) (EvP.bindEq (hx (out ++ [(⟨#[40]⟩ : ByteArray)]) (by rw [List.length_append]; show _ + 1 + _ ≤ _; omega)) (EvP.yes ?_ (EvP.ret ?_)))))
      · have := toks_len (X.bin op a b)
        rw [List.length_append, List.length_append, List.length_map]
        show _ + 1 + _ < _
        omega
      · unfold wrapT
        rw [if_pos rfl, List.map_cons, List.map_append]
        simp
        exact ⟨rfl, rfl⟩
    · rw [decide_eq_true (show lev op ≥ least by omega)]
      exact no (decide_eq_false hc)
theorem impl_exprTokens_ev : ∀ x : X, x.ok → ∀ out : List ByteArray, out.length + 5 * x.size ≤ 1000000 → EvP (fun k => impl_exprTokens.f k (emb x).f0 (emb x).f1 (emb x).f2 out) (· = out ++ x.toks.map ba)
  | .num n, h, out, ho => by
    have h : 0 ≤ n ∧ n ≤ 99999 := h
    exact EvP.step (fun k => impl_exprTokens.f.eq_2 (k := k) ..) (EvP.yes rfl (EvP.bind0 (Itoa_eq h.1 h.2) (EvP.yes (by omega) (EvP.ret rfl))))
  | .var v, h, out, ho => by
    have h : 0 ≤ v ∧ v < 4 := h
    exact EvP.step (fun k => impl_exprTokens.f.eq_2 (k := k) ..) (EvP.no (by show ¬ (13 : Int) = 0; decide) (EvP.yes rfl (EvP.bind0 (impl_varText_eq h) (EvP.yes (by omega) (EvP.ret rfl)))))
  | .bin op a b, h, out, ho => by
    have h1 := h.1
    have hr := lev_range h1
    have hs : (X.bin op a b).size = a.size + b.size + 1 := rfl
    have ta := toks_len a
    have wa := wrapT_len a.toks (decide (a.lev < lev op))
    show EvP (fun k => impl_exprTokens.f k op 0 [emb a, emb b] out) _
    refine EvP.step (fun k => impl_exprTokens.f.eq_2 (k := k) ..) (EvP.no (by show ¬ op = 0; omega) (EvP.no (by show ¬ op = 13; omega) (EvP.bindEq (impl_OpLevel_ev h1) (EvP.yes (by show (0 : Int) < 2; omega) ?_))))
    show EvP (fun k => (impl_operandTokens.f k (emb a).f0 (emb a).f1 (emb a).f2 (lev op) out).bind _) _
    refine EvP.bindEq (impl_operandTokens_of h.2.1 (impl_exprTokens_ev a h.2.1) (lev op) (by omega) out (by omega)) (EvP.bind0 (impl_OpText_eq h1) (EvP.yes (by rw [List.length_append, List.length_map]; omega) (EvP.yes (by show (1 : Int) < 2; omega) ?_)))
    show EvP (fun k => (impl_operandTokens.f k (emb b).f0 (emb b).f1 (emb b).f2 (wrap64 (lev op + 1)) _).bind _) _
    rw [w64 (by omega) (by omega)]
    refine EvP.bindEq (impl_operandTokens_of h.2.2 (impl_exprTokens_ev b h.2.2) (lev op + 1) (by omega) _ (by rw [List.length_append, List.length_append, List.length_map]; show _ + _ + 1 + _ + 2 ≤ _; omega)) (EvP.ret ?_)
    rw [X.toks, List.map_append, List.map_cons, show decide (b.lev < lev op + 1) = decide (b.lev ≤ lev op) from decide_eq_decide.mpr (by omega)]
    simp
theorem spec_l5Tokens_ev : ∀ x : X, x.ok → x.size ≤ 1000 → EvP (fun k => spec_l5Tokens.f k (emb x).f0 (emb x).f1 (emb x).f2) (· = x.toks.map ba)
  | .num n, h, _ => by
    have h : 0 ≤ n ∧ n ≤ 99999 := h
    exact EvP.step (fun k => spec_l5Tokens.f.eq_2 (k := k) ..) (EvP.yes rfl (EvP.bindEq (spec_l6Dec_ev n.toNat n (by omega) h.1 (by omega)) (EvP.ret rfl)))
  | .var v, h, _ => by
    have h : 0 ≤ v ∧ v < 4 := h
    exact EvP.step (fun k => spec_l5Tokens.f.eq_2 (k := k) ..) (EvP.no (by show ¬ (13 : Int) = 0; decide) (EvP.yes rfl (EvP.bind0 (spec_l5Name_eq h) (EvP.ret rfl))))
  | .bin op a b, h, hz => by
    have h1 := h.1
    have hr := lev_range h1
    have hs : (X.bin op a b).size = a.size + b.size + 1 := rfl
    have ta := toks_len a
    have tb := toks_len b
    have wa := wrapT_len a.toks (decide (a.lev < lev op))
    have wb := wrapT_len b.toks (decide (b.lev ≤ lev op))
    show EvP (fun k => spec_l5Tokens.f k op 0 [emb a, emb b]) _
    refine EvP.step (fun k => spec_l5Tokens.f.eq_2 (k := k) ..) (EvP.no (by show ¬ op = 0; omega) (EvP.no (by show ¬ op = 13; omega) (EvP.bind0 (spec_OpLevel_eq h1) (EvP.yes (by show (0 : Int) < 2; omega) ?_))))
    show EvP (fun k => (spec_l5Tokens.f k (emb a).f0 (emb a).f1 (emb a).f2).bind _) _
    refine EvP.bindEq (spec_l5Tokens_ev a h.2.1 (by omega)) (EvP.bind0 (spec_l5Level_eq h.2.1) (EvP.bind0 (spec_l5Wrap_eq _ _ (by omega)) (EvP.bind0 (spec_OpText_eq h1) (EvP.yes (by rw [List.length_map]; omega) (EvP.bind0 rfl (EvP.yes (by show (1 : Int) < 2; omega) ?_))))))
    show EvP (fun k => (spec_l5Tokens.f k (emb b).f0 (emb b).f1 (emb b).f2).bind _) _
    refine EvP.bindEq (spec_l5Tokens_ev b h.2.2 (by omega)) (EvP.bind0 (spec_l5Level_eq h.2.2) (EvP.bind0 (spec_l5Wrap_eq _ _ (by omega)) ?_))
    refine EvP.yes (by rw [List.length_append, List.length_map, List.length_map]; show _ + 1 + _ < _; omega) ?_
    first
    | exact EvP.ret (by rw [X.toks, List.map_append, List.map_cons]; simp)
    | exact EvP.bind0 rfl (EvP.ret (by rw [X.toks, List.map_append, List.map_cons]; simp))
theorem opB_len {op : Int} (h : 1 ≤ op ∧ op ≤ 12) : (opB op).length ≤ 2 := by
 rcases ops12 h with h | h | h | h | h | h | h | h | h | h | h | h <;> subst h <;> decide
theorem wrapT_short {l : List (List UInt8)} {b : Bool} {m : Nat} (hm : 1 ≤ m) (h : ∀ t ∈ l, t.length ≤ m) : ∀ t ∈ wrapT l b, t.length ≤ m := by
 unfold wrapT
 split
 ·intro t ht
  rcases List.mem_cons.1 ht with h1 | h1
  ·subst h1
   exact hm
  ·rcases List.mem_append.1 h1 with h2 | h2
   ·exact h t h2
   ·rw [List.mem_singleton] at h2
    subst h2
    exact hm
 ·exact h
theorem toks_short : ∀ x : X, x.ok → ∀ t ∈ x.toks, t.length ≤ 5
 | .num n, h => by
  have h : 0 ≤ n ∧ n ≤ 99999 := h
  intro t ht
  rw [X.toks, List.mem_singleton] at ht
  subst ht
  exact dec_len h.1 h.2
 | .var v, h => by
  intro t ht
  rw [X.toks, List.mem_singleton] at ht
  subst ht
  exact (by decide : (1 : Nat) ≤ 5)
 | .bin op a b, h => by
  intro t ht
  rw [X.toks] at ht
  rcases List.mem_append.1 ht with h1 | h1
  ·exact wrapT_short (by decide) (toks_short a h.2.1) t h1
  ·rcases List.mem_cons.1 h1 with h2 | h2
   ·subst h2
    have := opB_len h.1
    omega
   ·exact wrapT_short (by decide) (toks_short b h.2.2) t h2
theorem joinT_len (m : Nat) : ∀ L : List (List UInt8), (∀ t ∈ L, t.length ≤ m) → (joinT L).length ≤ (m + 1) * L.length
 | [], _ => by simp [joinT]
 | [x], h => by
  have := h x (by simp)
  simp only [joinT, List.length_singleton]
  omega
 | x :: y :: r, h => by
  have h1 := h x (by simp)
  have h2 := joinT_len m (y :: r) (fun t ht => h t (by simp [ht]))
  rw [joinT_cons x (by simp), List.length_append, List.length_cons, List.length_cons (a := x), Nat.mul_add]
  omega
theorem toks_small (x : X) (hx : x.ok) (hd : x.depth ≤ 5) : x.size ≤ 31 ∧ x.toks.length ≤ 151 ∧ (joinT x.toks).length ≤ 906 := by
 have h1 := size_32 x hd
 have h2 := toks_len x
 have h3 := joinT_len 5 x.toks (toks_short x hx)
 omega
inductive VS (boxes : Int) : ST → Prop
 | mk (t : ST) (h : stS boxes (embT t) = true) (hx : t.x.ok) (hd : t.x.depth ≤ 5) (hb : ∀ y ∈ t.b, VS boxes y) (he : ∀ y ∈ t.e, VS boxes y) : VS boxes t
theorem VS.st {boxes : Int} {t : ST} (h : VS boxes t) : stS boxes (embT t) = true := by cases h; assumption
theorem VS.ok {boxes : Int} {t : ST} (h : VS boxes t) : t.x.ok := by cases h; assumption
theorem VS.dp {boxes : Int} {t : ST} (h : VS boxes t) : t.x.depth ≤ 5 := by cases h; assumption
theorem VS.b {boxes : Int} {t : ST} (h : VS boxes t) : ∀ y ∈ t.b, VS boxes y := by cases h; assumption
theorem VS.e {boxes : Int} {t : ST} (h : VS boxes t) : ∀ y ∈ t.e, VS boxes y := by cases h; assumption
theorem embTs_mem {l : List ST} {y : ST} (h : y ∈ l) : embT y ∈ embTs l := by
 induction l with
 | nil => cases h
 | cons x r ih =>
  rw [embTs]
  rcases List.mem_cons.1 h with rfl | h
  ·exact List.mem_cons_self
  ·exact List.mem_cons_of_mem _ (ih h)
theorem embTs_nil_of {l : List ST} (h : (embTs l).length = 0) : l = [] := by
 rw [embTs_length] at h
 exact List.eq_nil_of_length_eq_zero h
theorem vs_flat {boxes : Int} {t : ST} (h : stS boxes (embT t) = true) (hk : isBlk (embT t) = false) : t.b = [] ∧ t.e = [] := by
 have hk' : ¬ ((embT t).f0 = 2 ∨ (embT t).f0 = 3) := by rw [← isBlk_iff, hk]; exact Bool.false_ne_true
 rw [embT_f] at h hk'
 have := stOk_flat h (fun e => hk' (.inl e)) (fun e => hk' (.inr e))
 exact ⟨embTs_nil_of this.1, embTs_nil_of this.2⟩
theorem vs_of (boxes : Int) : ∀ (d : Nat) (t : ST), okOne boxes d (embT t) = true → AX t → VS boxes t
 | 0, t, h, ha => by
  rw [okOne, Bool.and_eq_true, Bool.not_eq_true'] at h
  obtain ⟨e1, e2⟩ := vs_flat h.1 h.2
  cases ha with
  | mk _ h1 h2 hb he => exact .mk t h.1 h1 h2 (by rw [e1]; intro y hy; cases hy) (by rw [e2]; intro y hy; cases hy)
 | d + 1, t, h, ha => by
  rw [okOne, Bool.and_eq_true] at h
  cases ha with
  | mk _ h1 h2 hb he =>
   cases hk : isBlk (embT t) with
   | false =>
    obtain ⟨e1, e2⟩ := vs_flat h.1 hk
    exact .mk t h.1 h1 h2 (by rw [e1]; intro y hy; cases hy) (by rw [e2]; intro y hy; cases hy)
   | true =>
    have h3 := h.2
    rw [hk] at h3
    simp only [Bool.not_true, Bool.false_or, Bool.and_eq_true, List.all_eq_true] at h3
    rw [show (embT t).f4 = embTs t.b by rw [embT_f], show (embT t).f5 = embTs t.e by rw [embT_f]] at h3
    exact .mk t h.1 h1 h2 (fun y hy => vs_of boxes d y (h3.1 _ (embTs_mem hy)) (hb y hy)) (fun y hy => vs_of boxes d y (h3.2 _ (embTs_mem hy)) (he y hy))
theorem vs_kd {boxes : Int} {t : ST} (h : VS boxes t) : t.kd = 1 ∨ t.kd = 2 ∨ t.kd = 3 ∨ t.kd = 4 ∨ t.kd = 5 ∨ t.kd = 6 ∨ t.kd = 7 := by
 have h1 := h.st
 rw [embT_f] at h1
 unfold stS stOk at h1
 dsimp only at h1
 by_cases c1 : t.kd = 1
 ·omega
 rw [if_neg c1] at h1
 by_cases c2 : t.kd = 2
 ·omega
 rw [if_neg c2] at h1
 by_cases c3 : t.kd = 3
 ·omega
 rw [if_neg c3] at h1
 by_cases c4 : t.kd = 4
 ·omega
 rw [if_neg c4] at h1
 by_cases c5 : t.kd = 5
 ·omega
 rw [if_neg c5] at h1
 by_cases c7 : t.kd = 7
 ·omega
 rw [if_neg c7] at h1
 by_cases c6 : t.kd = 6
 ·omega
 rw [if_neg c6] at h1
 cases h1
theorem vs_var {boxes : Int} {t : ST} (h : VS boxes t) (hk : t.kd = 1 ∨ t.kd = 5) : 0 ≤ t.va ∧ t.va < 4 := by
 have h1 := h.st
 rw [embT_f] at h1
 unfold stS stOk at h1
 dsimp only at h1
 rcases hk with hk | hk <;> rw [hk] at h1 <;> simp [restOk, varOk] at h1 <;> omega
theorem vs_box {boxes : Int} (hbx : boxes ≤ 3) {t : ST} (h : VS boxes t) (hk : t.kd = 4 ∨ t.kd = 5) : 0 ≤ t.bx ∧ t.bx ≤ 2 := by
 have h1 := h.st
 rw [embT_f] at h1
 unfold stS stOk at h1
 dsimp only at h1
 rcases hk with hk | hk <;> rw [hk] at h1 <;> simp [restOk, boxOk] at h1 <;> omega
def wIf : List UInt8 := [105, 102]
def wElse : List UInt8 := [101, 108, 115, 101]
def wWhile : List UInt8 := [119, 104, 105, 108, 101]
def wSend : List UInt8 := [115, 101, 110, 100]
def wRecv : List UInt8 := [114, 101, 99, 118]
def wYield : List UInt8 := [121, 105, 101, 108, 100]
def wPrint : List UInt8 := [112, 114, 105, 110, 116]
def wBox : List UInt8 := [98, 111, 120]
def wTask : List UInt8 := [116, 97, 115, 107]
mutual
def sT : ST → List (List UInt8)
 | ⟨kd, va, bx, x, b, e⟩ =>
  if kd = 1 then [varB va, [61]] ++ x.toks ++ [[59]]
  else if kd = 2 then wIf :: (x.toks ++ ([123] :: (sTs b ++ [[125]]))) ++ (if e.length = 0 then [] else wElse :: ([123] :: (sTs e ++ [[125]])))
  else if kd = 3 then wWhile :: (x.toks ++ ([123] :: (sTs b ++ [[125]])))
  else if kd = 4 then [wSend, dec bx] ++ x.toks ++ [[59]]
  else if kd = 5 then [wRecv, dec bx, varB va, [59]]
  else if kd = 6 then [wYield, [59]]
  else wPrint :: x.toks ++ [[59]]
def sTs : List ST → List (List UInt8)
 | [] => []
 | s :: ss => sT s ++ sTs ss
end
def blkT (l : List ST) : List (List UInt8) := [123] :: (sTs l ++ [[125]])
theorem sT_f (t : ST) : sT t =
  if t.kd = 1 then [varB t.va, [61]] ++ t.x.toks ++ [[59]]
  else if t.kd = 2 then wIf :: (t.x.toks ++ blkT t.b) ++ (if t.e.length = 0 then [] else wElse :: blkT t.e)
  else if t.kd = 3 then wWhile :: (t.x.toks ++ blkT t.b)
  else if t.kd = 4 then [wSend, dec t.bx] ++ t.x.toks ++ [[59]]
  else if t.kd = 5 then [wRecv, dec t.bx, varB t.va, [59]]
  else if t.kd = 6 then [wYield, [59]]
  else wPrint :: t.x.toks ++ [[59]] := by
 cases t
 rw [sT]
 rfl
theorem sT_1 {t : ST} (h : t.kd = 1) : sT t = [varB t.va, [61]] ++ t.x.toks ++ [[59]] := by rw [sT_f, if_pos h]
theorem sT_2a {t : ST} (h : t.kd = 2) (h0 : t.e.length = 0) : sT t = wIf :: (t.x.toks ++ blkT t.b) := by rw [sT_f, if_neg (by omega), if_pos h, if_pos h0, List.append_nil]
theorem sT_2b {t : ST} (h : t.kd = 2) (h0 : ¬ t.e.length = 0) : sT t = wIf :: (t.x.toks ++ blkT t.b) ++ wElse :: blkT t.e := by rw [sT_f, if_neg (by omega), if_pos h, if_neg h0]
theorem sT_3 {t : ST} (h : t.kd = 3) : sT t = wWhile :: (t.x.toks ++ blkT t.b) := by rw [sT_f, if_neg (by omega), if_neg (by omega), if_pos h]
theorem sT_4 {t : ST} (h : t.kd = 4) : sT t = [wSend, dec t.bx] ++ t.x.toks ++ [[59]] := by rw [sT_f, if_neg (by omega), if_neg (by omega), if_neg (by omega), if_pos h]
theorem sT_5 {t : ST} (h : t.kd = 5) : sT t = [wRecv, dec t.bx, varB t.va, [59]] := by rw [sT_f, if_neg (by omega), if_neg (by omega), if_neg (by omega), if_neg (by omega), if_pos h]
theorem sT_6 {t : ST} (h : t.kd = 6) : sT t = [wYield, [59]] := by rw [sT_f, if_neg (by omega), if_neg (by omega), if_neg (by omega), if_neg (by omega), if_neg (by omega), if_pos h]
theorem sT_7 {t : ST} (h : t.kd = 7) : sT t = wPrint :: t.x.toks ++ [[59]] := by rw [sT_f, if_neg (by omega), if_neg (by omega), if_neg (by omega), if_neg (by omega), if_neg (by omega), if_neg (by omega)]
theorem sTs_drop (l : List ST) (j : Nat) (h : j < l.length) : sTs (l.drop j) = sT l[j] ++ sTs (l.drop (j + 1)) := by rw [List.drop_eq_getElem_cons h, sTs]
def Good (L : List (List UInt8)) : Prop := ∀ t ∈ L, Tok t ∧ t.length ≤ 5
theorem Good.nil : Good [] := fun _ h => by cases h
theorem Good.cons {t : List UInt8} {L : List (List UInt8)} (h : Tok t) (hl : t.length ≤ 5) (k : Good L) : Good (t :: L) := fun x hx => by
 rcases List.mem_cons.1 hx with rfl | hx
 ·exact ⟨h, hl⟩
 ·exact k x hx
theorem Good.app {L M : List (List UInt8)} (h : Good L) (k : Good M) : Good (L ++ M) := fun x hx => by
 rcases List.mem_append.1 hx with hx | hx
 ·exact h x hx
 ·exact k x hx
theorem good_toks {x : X} (h : x.ok) : Good x.toks := fun t ht => ⟨toks_tok x h t ht, toks_short x h t ht⟩
theorem word_tok {c : UInt8} {t : List UInt8} (h : (c :: t).all isL = true) : Tok (c :: t) := .let_ c t (List.all_eq_true.1 h)
theorem good_blk {l : List ST} (h : Good (sTs l)) : Good (blkT l) := Good.cons (.sym _ (by decide)) (by decide) (h.app (Good.cons (.sym _ (by decide)) (by decide) .nil))
theorem good_semi : Good [[59]] := Good.cons (.sym _ (by decide)) (by decide) .nil
theorem good_sTs_of (l : List ST) (h : ∀ y ∈ l, Good (sT y)) : Good (sTs l) := by
 induction l with
 | nil => rw [sTs]; exact .nil
 | cons x r ih =>
  rw [sTs]
  exact (h x (by simp)).app (ih (fun y hy => h y (by simp [hy])))
theorem good_sT {boxes : Int} (hbx : boxes ≤ 3) (t : ST) : VS boxes t → Good (sT t) :=
 ind_ST (P := fun t => VS boxes t → Good (sT t)) (fun t hb he hv => by
  have gb := good_blk (good_sTs_of t.b (fun y hy => hb y hy (hv.b y hy)))
  have ge := good_blk (good_sTs_of t.e (fun y hy => he y hy (hv.e y hy)))
  have gx := good_toks hv.ok
  rw [sT_f]
  rcases vs_kd hv with hk | hk | hk | hk | hk | hk | hk
  ·rw [if_pos hk]
   have h1 := vs_var hv (.inl hk)
   exact ((Good.cons (varB_tok h1) (by show (1 : Nat) ≤ 5; omega) (Good.cons (.sym _ (by decide)) (by decide) .nil)).app gx).app good_semi
  ·rw [if_neg (by omega), if_pos hk]
   refine (Good.cons (word_tok (by decide)) (by decide) (gx.app gb)).app ?_
   split
   ·exact .nil
   ·exact Good.cons (word_tok (by decide)) (by decide) ge
  ·rw [if_neg (by omega), if_neg (by omega), if_pos hk]
   exact Good.cons (word_tok (by decide)) (by decide) (gx.app gb)
  ·rw [if_neg (by omega), if_neg (by omega), if_neg (by omega), if_pos hk]
   have h1 := vs_box hbx hv (.inl hk)
   exact ((Good.cons (word_tok (by decide)) (by decide) (Good.cons (dec_tok _) (dec_len h1.1 (by omega)) .nil)).app gx).app good_semi
  ·rw [if_neg (by omega), if_neg (by omega), if_neg (by omega), if_neg (by omega), if_pos hk]
   have h1 := vs_box hbx hv (.inr hk)
   have h2 := vs_var hv (.inr hk)
   exact Good.cons (word_tok (by decide)) (by decide) (Good.cons (dec_tok _) (dec_len h1.1 (by omega)) (Good.cons (varB_tok h2) (by show (1 : Nat) ≤ 5; omega) good_semi))
  ·rw [if_neg (by omega), if_neg (by omega), if_neg (by omega), if_neg (by omega), if_neg (by omega), if_pos hk]
   exact Good.cons (word_tok (by decide)) (by decide) good_semi
  ·rw [if_neg (by omega), if_neg (by omega), if_neg (by omega), if_neg (by omega), if_neg (by omega), if_neg (by omega)]
   exact (Good.cons (word_tok (by decide)) (by decide) gx).app good_semi) t
theorem good_sTs {boxes : Int} (hbx : boxes ≤ 3) (l : List ST) (h : ∀ t ∈ l, VS boxes t) : Good (sTs l) := good_sTs_of l (fun y hy => good_sT hbx y (h y hy))
theorem len_sTs_of (l : List ST) (h : ∀ y ∈ l, (sT y).length ≤ 170 * cT [y]) : (sTs l).length ≤ 170 * cT l := by
 induction l with
 | nil => rw [sTs]; simp
 | cons x r ih =>
  have h1 := h x (by simp)
  have h2 := ih (fun y hy => h y (by simp [hy]))
  rw [cT_one] at h1
  rw [sTs, List.length_append, cT_cons]
  omega
theorem len_sT {boxes : Int} (t : ST) : VS boxes t → (sT t).length ≤ 170 * cT [t] :=
 ind_ST (P := fun t => VS boxes t → (sT t).length ≤ 170 * cT [t]) (fun t hb he hv => by
  have gb := len_sTs_of t.b (fun y hy => hb y hy (hv.b y hy))
  have ge := len_sTs_of t.e (fun y hy => he y hy (hv.e y hy))
  obtain ⟨_, gx, _⟩ := toks_small t.x hv.ok hv.dp
  have eb : (blkT t.b).length = (sTs t.b).length + 2 := by simp [blkT]
  have ee : (blkT t.e).length = (sTs t.e).length + 2 := by simp [blkT]
  rw [sT_f, cT_one]
  rcases vs_kd hv with hk | hk | hk | hk | hk | hk | hk
  ·rw [if_pos hk]
   simp only [List.length_append, List.length_cons, List.length_nil]
   omega
  ·rw [if_neg (by omega), if_pos hk, List.length_append, List.length_cons, List.length_append, eb]
   split
   ·simp only [List.length_nil]
    omega
   ·rw [List.length_cons, ee]
    omega
  ·rw [if_neg (by omega), if_neg (by omega), if_pos hk, List.length_cons, List.length_append, eb]
   omega
  ·rw [if_neg (by omega), if_neg (by omega), if_neg (by omega), if_pos hk]
   simp only [List.length_append, List.length_cons, List.length_nil]
   omega
  ·rw [if_neg (by omega), if_neg (by omega), if_neg (by omega), if_neg (by omega), if_pos hk]
   simp only [List.length_cons, List.length_nil]
   omega
  ·rw [if_neg (by omega), if_neg (by omega), if_neg (by omega), if_neg (by omega), if_neg (by omega), if_pos hk]
   simp only [List.length_cons, List.length_nil]
   omega
  ·rw [if_neg (by omega), if_neg (by omega), if_neg (by omega), if_neg (by omega), if_neg (by omega), if_neg (by omega)]
   simp only [List.length_append, List.length_cons, List.length_nil]
   omega) t
theorem len_sTs {boxes : Int} (l : List ST) (h : ∀ t ∈ l, VS boxes t) : (sTs l).length ≤ 170 * cT l := len_sTs_of l (fun y hy => len_sT y (h y hy))
end Go.Proofs.YtjamfkpgmkhbnaaGreatDoor.PA

namespace Go.Proofs.YtjamfkpgmkhbnaaGreatDoor.PA
set_option linter.unusedSimpArgs false
open Go.RowKit Go.Proofs.YtjamfkpgmkhbnaaGreatDoorW.PrintWords Go.Proofs.YtjamfkpgmkhbnaaGreatDoorW.PrintMore Go.Proofs.YtjamfkpgmkhbnaaGreatDoor.Core
theorem cT_length (l : List ST) : l.length ≤ cT l := by
 have h := cSs_length (embTs l)
 rw [embTs_length] at h
 exact h
theorem cT_split (l : List ST) (j : Nat) : cT (l.take j) + cT (l.drop j) = cT l := by
 rw [← cT_append, List.take_append_drop]
theorem rdT_nat (l : List ST) (j : Nat) (h : j < l.length) : rd_T58 (embTs l) (j : Int) = embT l[j] := by
 rw [rdS_nat _ j (by rw [embTs_length]; exact h), embTs_get l j h]
end Go.Proofs.YtjamfkpgmkhbnaaGreatDoor.PA

namespace Go.Proofs.YtjamfkpgmkhbnaaGreatDoor.PA
open Go.RowKit Go.Proofs.YtjamfkpgmkhbnaaGreatDoorW.PrintWords Go.Proofs.YtjamfkpgmkhbnaaGreatDoorW.PrintMore Go.Proofs.YtjamfkpgmkhbnaaGreatDoor.Core
def BlkP (l : List ST) : Prop := ∀ out : List ByteArray, out.length + 170 * cT l + 10 ≤ 1000000 → EvP (fun k => impl_blockTokens.f k (embTs l) out) (· = out ++ (blkT l).map ba)
theorem impl_stmtTokens_of {boxes : Int} (hbx : boxes ≤ 3) (t : ST) (hv : VS boxes t) (hb : BlkP t.b) (he : BlkP t.e) (out : List ByteArray) (ho : out.length + 170 * cT [t] ≤ 1000000) :
    EvP (fun k => impl_stmtTokens.f k (embT t).f0 (embT t).f1 (embT t).f2 (embT t).f3.f0 (embT t).f3.f1 (embT t).f3.f2 (embT t).f4 (embT t).f5 out) (· = out ++ (sT t).map ba) := by
  obtain ⟨zx, tx, _⟩ := toks_small t.x hv.ok hv.dp
  have hs := hv.ok
  rw [cT_one] at ho
  rw [embT_f]
  show EvP (fun k => impl_stmtTokens.f k t.kd t.va t.bx (emb t.x).f0 (emb t.x).f1 (emb t.x).f2 (embTs t.b) (embTs t.e) out) _
  refine EvP.step (fun k => impl_stmtTokens.f.eq_2 (k := k) ..) ?_
  rcases vs_kd hv with hk | hk | hk | hk | hk | hk | hk
  · have h1 := vs_var hv (.inl hk)
    rw [sT_1 hk]
    refine EvP.yes hk (EvP.bind0 (impl_varText_eq h1) (EvP.bind0 rfl (EvP.yes (by show _ + 2 < _; omega) (EvP.bindEq (impl_exprTokens_ev t.x hs _ (by rw [List.length_append]; show _ + 2 + _ ≤ _; omega)) (EvP.yes ?_ (EvP.ret ?_))))))
    · rw [List.length_append, List.length_append, List.length_map]
      show _ + 2 + _ < _
      omega
    · simp
      first | done | rfl | exact ⟨rfl, rfl⟩ | exact ⟨rfl, rfl, rfl⟩
  ·
    refine EvP.no (by omega) (EvP.yes hk (EvP.yes (by omega) (EvP.bindEq (impl_exprTokens_ev t.x hs _ (by rw [List.length_append]; show _ + 1 + _ ≤ _; omega)) (EvP.bindEq (hb _ ?_) ?_))))
    · rw [List.length_append, List.length_append, List.length_map]
      show _ + 1 + _ + _ + _ ≤ _
      omega
    · refine EvP.ite (fun h0 => ?_) (fun h0 => ?_)
      · rw [embTs_length] at h0
        rw [sT_2b hk (by omega)]
        have hlb := len_sTs t.b hv.b
        have eb : (blkT t.b).length = (sTs t.b).length + 2 := by simp [blkT]
        refine EvP.yes ?_ (EvP.bindEq (he _ ?_) (EvP.ret ?_))
        · rw [List.length_append, List.length_append, List.length_append, List.length_map, List.length_map, eb]
          show _ + 1 + _ + _ < _
          omega
        · rw [List.length_append, List.length_append, List.length_append, List.length_append, List.length_map, List.length_map, eb]
          show _ + 1 + _ + _ + 1 + _ + _ ≤ _
          omega
        · simp
          first | done | rfl | exact ⟨rfl, rfl⟩ | exact ⟨rfl, rfl, rfl⟩
      · rw [embTs_length] at h0
        rw [sT_2a hk (by omega)]
        refine EvP.ret ?_
        simp
        first | done | rfl | exact ⟨rfl, rfl⟩ | exact ⟨rfl, rfl, rfl⟩
  · rw [sT_3 hk]
    refine EvP.no (by omega) (EvP.no (by omega) (EvP.yes hk (EvP.yes (by omega) (EvP.bindEq (impl_exprTokens_ev t.x hs _ (by rw [List.length_append]; show _ + 1 + _ ≤ _; omega)) (EvP.bindEq (hb _ ?_) (EvP.ret ?_))))))
    · rw [List.length_append, List.length_append, List.length_map]
      show _ + 1 + _ + _ + _ ≤ _
      omega
    · simp
      first | done | rfl | exact ⟨rfl, rfl⟩ | exact ⟨rfl, rfl, rfl⟩
  · have h1 := vs_box hbx hv (.inl hk)
    rw [sT_4 hk]
    refine EvP.no (by omega) (EvP.no (by omega) (EvP.no (by omega) (EvP.yes hk (EvP.bind0 (Itoa_eq h1.1 (by omega)) (EvP.bind0 rfl (EvP.yes (by show _ + 2 < _; omega) (EvP.bindEq (impl_exprTokens_ev t.x hs _ (by rw [List.length_append]; show _ + 2 + _ ≤ _; omega)) (EvP.yes ?_ (EvP.ret ?_)))))))))
    · rw [List.length_append, List.length_append, List.length_map]
      show _ + 2 + _ < _
      omega
    · simp
      first | done | rfl | exact ⟨rfl, rfl⟩ | exact ⟨rfl, rfl, rfl⟩
  · have h1 := vs_box hbx hv (.inr hk)
    have h2 := vs_var hv (.inr hk)
    rw [sT_5 hk]
    refine EvP.no (by omega) (EvP.no (by omega) (EvP.no (by omega) (EvP.no (by omega) (EvP.yes hk (EvP.bind0 (Itoa_eq h1.1 (by omega)) (EvP.bind0 (impl_varText_eq h2) (EvP.bind0 rfl (EvP.yes (by show _ + 3 < _; omega) (EvP.bind0 rfl (EvP.yes ?_ (EvP.ret ?_)))))))))))
    · rw [List.length_append]
      show _ + 3 < _
      omega
    · simp
      first | done | rfl | exact ⟨rfl, rfl⟩ | exact ⟨rfl, rfl, rfl⟩
  · rw [sT_6 hk]
    refine EvP.no (by omega) (EvP.no (by omega) (EvP.no (by omega) (EvP.no (by omega) (EvP.no (by omega) (EvP.yes hk (EvP.yes (by omega) (EvP.bind0 rfl (EvP.yes ?_ (EvP.ret ?_)))))))))
    · rw [List.length_append]
      show _ + 1 < _
      omega
    · simp
      first | done | rfl | exact ⟨rfl, rfl⟩ | exact ⟨rfl, rfl, rfl⟩
  · rw [sT_7 hk]
    refine EvP.no (by omega) (EvP.no (by omega) (EvP.no (by omega) (EvP.no (by omega) (EvP.no (by omega) (EvP.no (by omega) (EvP.yes hk (EvP.yes (by omega) (EvP.bindEq (impl_exprTokens_ev t.x hs _ (by rw [List.length_append]; show _ + 1 + _ ≤ _; omega)) (EvP.yes ?_ (EvP.ret ?_))))))))))
    · rw [List.length_append, List.length_append, List.length_map]
      show _ + 1 + _ < _
      omega
    · simp
      first | done | rfl | exact ⟨rfl, rfl⟩ | exact ⟨rfl, rfl, rfl⟩
theorem blockTokens_l0 {boxes : Int} (hbx : boxes ≤ 3) (l : List ST) (hc : cT l ≤ 5000) (hv : ∀ t ∈ l, VS boxes t) (hs : ∀ t ∈ l, BlkP t.b ∧ BlkP t.e) : ∀ (d j : Nat) (out : List ByteArray), j + d = l.length → out.length + 170 * cT (l.drop j) + 5 ≤ 1000000 →
    EvP (fun k => impl_blockTokens.l0 k out (embTs l) ((embTs l).length : Int) (j : Int)) (· = out ++ (sTs (l.drop j) ++ [[125]]).map ba)
  | 0, j, out, h, ho => by
    refine EvP.step (fun k => impl_blockTokens.l0.eq_2 (k := k) ..) (EvP.no (by rw [embTs_length]; omega) (EvP.yes (by omega) (EvP.ret ?_)))
    rw [List.drop_eq_nil_of_le (by omega), sTs]
    rfl
  | d + 1, j, out, h, ho => by
    have hj : j < l.length := by omega
    have hcl := cT_length l
    have hcd : cT (l.drop j) = cT [l[j]] + cT (l.drop (j + 1)) := by rw [List.drop_eq_getElem_cons hj, cT_cons, cT_one]
    have hm : l[j] ∈ l := by simp
    have hlen := len_sT l[j] (hv _ hm)
    refine EvP.step (fun k => impl_blockTokens.l0.eq_2 (k := k) ..) (EvP.yes (by rw [embTs_length]; omega) (EvP.yes (by omega) (EvP.yes (by rw [embTs_length]; omega) ?_)))
    rw [rdT_nat l j hj]
    refine EvP.bindEq (impl_stmtTokens_of hbx l[j] (hv _ hm) (hs _ hm).1 (hs _ hm).2 out (by omega)) ?_
    rw [w64 (by omega) (by omega), show (j : Int) + 1 = ((j + 1 : Nat) : Int) by omega]
    refine (blockTokens_l0 hbx l hc hv hs d (j + 1) _ (by omega) (by rw [List.length_append, List.length_map]; omega)).mono (fun a ha => ?_)
    rw [ha, sTs_drop l j hj]
    simp
theorem impl_blockTokens_ev {boxes : Int} (hbx : boxes ≤ 3) : ∀ (c : Nat) (l : List ST), cT l ≤ c → c ≤ 5000 → (∀ t ∈ l, VS boxes t) → BlkP l := by
 intro c
 induction c with
 | zero =>
  intro l hc h5 hv out ho
  have hl : l = [] := by
   have := cT_length l
   exact List.eq_nil_of_length_eq_zero (by omega)
  subst hl
  refine EvP.step (fun k => impl_blockTokens.f.eq_2 (k := k) ..) (EvP.yes (by omega) ?_)
  refine (blockTokens_l0 hbx [] (by omega) hv (fun t h => by cases h) 0 0 _ rfl (by rw [List.length_append]; show _ + 1 + _ + _ ≤ _; simp only [List.drop_nil]; omega)).mono (fun a ha => ?_)
  rw [ha]
  unfold blkT
  simp
  first | done | rfl | exact ⟨rfl, rfl⟩ | exact ⟨rfl, rfl, rfl⟩
 | succ c ih =>
  intro l hc h5 hv out ho
  have hs : ∀ t ∈ l, BlkP t.b ∧ BlkP t.e := by
   intro t ht
   have h1 : cT [t] ≤ cT l := by
    obtain ⟨s, r, rfl⟩ := List.append_of_mem ht
    rw [cT_append, cT_cons t r, cT_one]
    omega
   rw [cT_one] at h1
   exact ⟨ih t.b (by omega) (by omega) (hv t ht).b, ih t.e (by omega) (by omega) (hv t ht).e⟩
  refine EvP.step (fun k => impl_blockTokens.f.eq_2 (k := k) ..) (EvP.yes (by omega) ?_)
  refine (blockTokens_l0 hbx l (by omega) hv hs l.length 0 _ (by omega) (by rw [List.length_append]; show _ + 1 + _ + _ ≤ _; rw [List.drop_zero]; omega)).mono (fun a ha => ?_)
  rw [ha, List.drop_zero]
  unfold blkT
  simp
  first | done | rfl | exact ⟨rfl, rfl⟩ | exact ⟨rfl, rfl, rfl⟩
theorem l13Line_ev (L : List (List UInt8)) (hL : L.length ≤ 10) (x : X) (hx : x.ok) (hd : x.depth ≤ 5) : EvP (fun k => spec_l13Line.f k (L.map ba) (emb x).f0 (emb x).f1 (emb x).f2) (· = (L ++ x.toks ++ [[59]]).map ba) := by
  obtain ⟨zx, tx, _⟩ := toks_small x hx hd
  unfold spec_l13Line.f
  refine EvP.bindEq (spec_l5Tokens_ev x hx (by omega)) (EvP.yes (by rw [List.length_map, List.length_map]; omega) ?_)
  first
  | (refine EvP.bind0 rfl (EvP.yes ?_ (EvP.ret ?_))
     · rw [List.length_append, List.length_map, List.length_map]
       omega
     · simp
       rfl)
  | (refine EvP.yes ?_ (EvP.ret ?_)
     · rw [List.length_append, List.length_map, List.length_map]
       omega
     · simp
       rfl)
def BlkS (l : List ST) : Prop := EvP (fun k => spec_l13Block.f k (embTs l)) (· = (blkT l).map ba)
theorem spec_l13Stmt_of {boxes : Int} (hbx : boxes ≤ 3) (t : ST) (hv : VS boxes t) (hc : cT [t] ≤ 5000) (hb : BlkS t.b) (he : BlkS t.e) :
    EvP (fun k => spec_l13Stmt.f k (embT t).f0 (embT t).f1 (embT t).f2 (embT t).f3.f0 (embT t).f3.f1 (embT t).f3.f2 (embT t).f4 (embT t).f5) (· = (sT t).map ba) := by
  obtain ⟨zx, tx, _⟩ := toks_small t.x hv.ok hv.dp
  have hs := hv.ok
  have hd := hv.dp
  have lb := len_sTs t.b hv.b
  have le := len_sTs t.e hv.e
  have eb : (blkT t.b).length = (sTs t.b).length + 2 := by simp [blkT]
  have ee : (blkT t.e).length = (sTs t.e).length + 2 := by simp [blkT]
  rw [cT_one] at hc
  rw [embT_f]
  show EvP (fun k => spec_l13Stmt.f k t.kd t.va t.bx (emb t.x).f0 (emb t.x).f1 (emb t.x).f2 (embTs t.b) (embTs t.e)) _
  refine EvP.step (fun k => spec_l13Stmt.f.eq_2 (k := k) ..) ?_
  rcases vs_kd hv with hk | hk | hk | hk | hk | hk | hk
  · have h1 := vs_var hv (.inl hk)
    rw [sT_1 hk]
    exact EvP.yes hk (EvP.bind0 (spec_l5Name_eq h1) (EvP.bindEq (l13Line_ev [varB t.va, [61]] (by simp) t.x hs hd) (EvP.ret rfl)))
  · refine EvP.no (by omega) (EvP.no (by omega) (EvP.no (by omega) (EvP.no (by omega) (EvP.no (by omega) (EvP.no (by omega) (EvP.bind0 rfl (EvP.bindEq (spec_l5Tokens_ev t.x hs (by omega)) (EvP.yes (by rw [List.length_map]; show 1 + _ < _; omega) (EvP.bind0 rfl (EvP.bindEq hb (EvP.yes ?_ (EvP.bind0 rfl ?_))))))))))))
    · rw [List.length_append, List.length_map, List.length_map, eb]
      show 1 + _ + _ < _
      omega
    · refine EvP.ite (fun h0 => ?_) (fun h0 => ?_)
      · rw [embTs_length] at h0
        rw [sT_2a hk (by omega)]
        refine EvP.ret ?_
        simp
        first | done | rfl | exact ⟨rfl, rfl⟩
      · rw [embTs_length] at h0
        rw [sT_2b hk (by omega)]
        refine EvP.yes ?_ (EvP.bind0 rfl (EvP.bindEq he (EvP.yes ?_ (EvP.ret ?_))))
        · rw [List.length_append, List.length_append, List.length_map, List.length_map, eb]
          show 1 + _ + _ < _
          omega
        · rw [List.length_append, List.length_append, List.length_append, List.length_map, List.length_map, List.length_map, eb, ee]
          show 1 + _ + _ + 1 + _ < _
          omega
        · simp
          first | done | rfl | exact ⟨rfl, rfl⟩
  · rw [sT_3 hk]
    refine EvP.no (by omega) (EvP.no (by omega) (EvP.no (by omega) (EvP.no (by omega) (EvP.no (by omega) (EvP.yes hk (EvP.bind0 rfl (EvP.bindEq (spec_l5Tokens_ev t.x hs (by omega)) (EvP.yes (by rw [List.length_map]; show 1 + _ < _; omega) (EvP.bind0 rfl (EvP.bindEq hb (EvP.yes ?_ (EvP.ret ?_))))))))))))
    · rw [List.length_append, List.length_map, List.length_map, eb]
      show 1 + _ + _ < _
      omega
    · simp
      first | done | rfl | exact ⟨rfl, rfl⟩
  · have h1 := vs_box hbx hv (.inl hk)
    rw [sT_4 hk]
    exact EvP.no (by omega) (EvP.yes hk (EvP.bindEq (spec_l6Dec_ev t.bx.toNat t.bx (by omega) h1.1 (by omega)) (EvP.bindEq (l13Line_ev [wSend, dec t.bx] (by simp) t.x hs hd) (EvP.ret rfl))))
  · have h1 := vs_box hbx hv (.inr hk)
    have h2 := vs_var hv (.inr hk)
    rw [sT_5 hk]
    exact EvP.no (by omega) (EvP.no (by omega) (EvP.no (by omega) (EvP.yes hk (EvP.bindEq (spec_l6Dec_ev t.bx.toNat t.bx (by omega) h1.1 (by omega)) (EvP.bind0 (spec_l5Name_eq h2) (EvP.ret rfl))))))
  · rw [sT_6 hk]
    exact EvP.no (by omega) (EvP.no (by omega) (EvP.no (by omega) (EvP.no (by omega) (EvP.yes hk (EvP.ret rfl)))))
  · rw [sT_7 hk]
    exact EvP.no (by omega) (EvP.no (by omega) (EvP.yes hk (EvP.bindEq (l13Line_ev [wPrint] (by simp) t.x hs hd) (EvP.ret rfl))))
theorem l13Block_l0 {boxes : Int} (hbx : boxes ≤ 3) (l : List ST) (hc : cT l ≤ 5000) (hv : ∀ t ∈ l, VS boxes t) (hs : ∀ t ∈ l, BlkS t.b ∧ BlkS t.e) : ∀ (d j : Nat) (out : List ByteArray), j + d = l.length → out.length + 170 * cT (l.drop j) + 5 ≤ 1000000 →
    EvP (fun k => spec_l13Block.l0 k (embTs l) out (j : Int)) (· = out ++ (sTs (l.drop j) ++ [[125]]).map ba)
  | 0, j, out, h, ho => by
    refine EvP.step (fun k => spec_l13Block.l0.eq_2 (k := k) ..) (EvP.no (by rw [embTs_length]; omega) (EvP.yes (by omega) (EvP.ret ?_)))
    rw [List.drop_eq_nil_of_le (by omega), sTs]
    rfl
  | d + 1, j, out, h, ho => by
    have hj : j < l.length := by omega
    have hcl := cT_length l
    have hcd : cT (l.drop j) = cT [l[j]] + cT (l.drop (j + 1)) := by rw [List.drop_eq_getElem_cons hj, cT_cons, cT_one]
    have hsp := cT_split l j
    have hm : l[j] ∈ l := by simp
    have hlen := len_sT l[j] (hv _ hm)
    refine EvP.step (fun k => spec_l13Block.l0.eq_2 (k := k) ..) (EvP.yes (by rw [embTs_length]; omega) (EvP.yes (by omega) ?_))
    rw [rdT_nat l j hj]
    refine EvP.bindEq (spec_l13Stmt_of hbx l[j] (hv _ hm) (by omega) (hs _ hm).1 (hs _ hm).2) (EvP.yes (by rw [List.length_map]; omega) ?_)
    rw [w64 (by omega) (by omega), show (j : Int) + 1 = ((j + 1 : Nat) : Int) by omega]
    refine (l13Block_l0 hbx l hc hv hs d (j + 1) _ (by omega) (by rw [List.length_append, List.length_map]; omega)).mono (fun a ha => ?_)
    rw [ha, sTs_drop l j hj]
    simp
theorem spec_l13Block_ev {boxes : Int} (hbx : boxes ≤ 3) : ∀ (c : Nat) (l : List ST), cT l ≤ c → c ≤ 5000 → (∀ t ∈ l, VS boxes t) → BlkS l := by
 intro c
 induction c with
 | zero =>
  intro l hc h5 hv
  have hl : l = [] := by
   have := cT_length l
   exact List.eq_nil_of_length_eq_zero (by omega)
  subst hl
  refine EvP.step (fun k => spec_l13Block.f.eq_2 (k := k) ..) ?_
  refine (l13Block_l0 hbx [] (by omega) hv (fun t h => by cases h) 0 0 _ rfl (by show 1 + _ + _ ≤ _; simp only [List.drop_nil]; omega)).mono (fun a ha => ?_)
  rw [ha]
  unfold blkT
  simp
  first | done | rfl
 | succ c ih =>
  intro l hc h5 hv
  have hs : ∀ t ∈ l, BlkS t.b ∧ BlkS t.e := by
   intro t ht
   have h1 : cT [t] ≤ cT l := by
    obtain ⟨s, r, rfl⟩ := List.append_of_mem ht
    rw [cT_append, cT_cons t r, cT_one]
    omega
   rw [cT_one] at h1
   exact ⟨ih t.b (by omega) (by omega) (hv t ht).b, ih t.e (by omega) (by omega) (hv t ht).e⟩
  refine EvP.step (fun k => spec_l13Block.f.eq_2 (k := k) ..) ?_
  refine (l13Block_l0 hbx l (by omega) hv hs l.length 0 _ (by omega) (by show 1 + _ + _ ≤ _; rw [List.drop_zero]; omega)).mono (fun a ha => ?_)
  rw [ha, List.drop_zero]
  unfold blkT
  simp
  first | done | rfl
end Go.Proofs.YtjamfkpgmkhbnaaGreatDoor.PA

namespace Go.Proofs.YtjamfkpgmkhbnaaGreatDoor.PA
set_option linter.unusedSimpArgs false
open Go.RowKit Go.Proofs.YtjamfkpgmkhbnaaGreatDoorW.PrintWords Go.Proofs.YtjamfkpgmkhbnaaGreatDoorW.PrintMore Go.Proofs.YtjamfkpgmkhbnaaGreatDoor.Core
theorem foldsP {rs : List Int} {ts : List (List S58)} (h : progOk rs ts = true) : ∃ ms : List (List ST), ms.map embTs = ts ∧ ms.length ≤ 3 ∧ (∀ m ∈ ms, (∀ t ∈ m, AX t) ∧ cT m ≤ 16) ∧ ∀ m ∈ ms, okT (rs.length : Int) (embTs m) = true := by
 obtain ⟨_, _, h3, h4⟩ := progOk_iff.1 h
 suffices ∀ ts : List (List S58), (∀ t ∈ ts, okT (rs.length : Int) t = true) → ∃ ms : List (List ST), ms.map embTs = ts ∧ (∀ m ∈ ms, (∀ t ∈ m, AX t) ∧ cT m ≤ 16) ∧ ∀ m ∈ ms, okT (rs.length : Int) (embTs m) = true by
  obtain ⟨ms, e, ha, ho⟩ := this ts h4
  exact ⟨ms, e, by rw [← List.length_map (f := embTs), e]; exact h3, ha, ho⟩
 intro ts
 induction ts with
 | nil => exact fun _ => ⟨[], rfl, by simp, by simp⟩
 | cons t ts ih =>
  intro h
  obtain ⟨ms, e, ha, ho⟩ := ih (fun x hx => h x (List.mem_cons_of_mem _ hx))
  have ht := h t List.mem_cons_self
  obtain ⟨m, hm, hx⟩ := of_okL _ 3 t (okT_iff.1 ht).1
  subst hm
  refine ⟨m :: ms, by rw [List.map_cons, e], fun y hy => ?_, fun y hy => ?_⟩
  ·rcases List.mem_cons.1 hy with rfl | hy
   ·exact ⟨hx, (okT_iff.1 ht).2⟩
   ·exact ha y hy
  ·rcases List.mem_cons.1 hy with rfl | hy
   ·exact ht
   ·exact ho y hy
end Go.Proofs.YtjamfkpgmkhbnaaGreatDoor.PA

namespace Go.Proofs.YtjamfkpgmkhbnaaGreatDoor.PA
open Go.RowKit Go.Proofs.YtjamfkpgmkhbnaaGreatDoorW.PrintWords Go.Proofs.YtjamfkpgmkhbnaaGreatDoorW.PrintMore Go.Proofs.YtjamfkpgmkhbnaaGreatDoor.Core
def roomT (r : Int) : List (List UInt8) := [wBox, dec r, [59]]
def roomsT : List Int → List (List UInt8)
 | [] => []
 | r :: rs => roomT r ++ roomsT rs
def tasksT : List (List ST) → List (List UInt8)
 | [] => []
 | m :: ms => wTask :: blkT m ++ tasksT ms
def pT (rs : List Int) (ms : List (List ST)) : List (List UInt8) := roomsT rs ++ tasksT ms
structure VP (rs : List Int) (ms : List (List ST)) : Prop where
 rooms : ∀ r ∈ rs, 1 ≤ r ∧ r ≤ 4
 nr : rs.length ≤ 3
 n1 : 1 ≤ ms.length
 nm : ms.length ≤ 3
 vs : ∀ m ∈ ms, (∀ t ∈ m, VS (rs.length : Int) t) ∧ cT m ≤ 16
theorem vp_of {rs : List Int} {ts : List (List S58)} (h : progOk rs ts = true) : ∃ ms : List (List ST), ms.map embTs = ts ∧ VP rs ms ∧ (∀ m ∈ ms, (∀ t ∈ m, AX t) ∧ cT m ≤ 16) := by
 obtain ⟨ms, e, hl, ha, hk⟩ := foldsP h
 obtain ⟨h1, h2, h3, h4⟩ := progOk_iff.1 h
 refine ⟨ms, e, ⟨?_, ?_, ?_, hl, ?_⟩, ha⟩
 ·intro r hr
  unfold roomsOk at h1
  rw [Bool.and_eq_true, List.all_eq_true] at h1
  have := h1.1 r hr
  unfold roomOk at this
  rw [Bool.and_eq_true, decide_eq_true_eq, decide_eq_true_eq] at this
  exact this
 ·have := rooms_len h1
  omega
 ·rw [← e, List.length_map] at h2
  exact h2
 ·intro m hm
  refine ⟨fun t ht => ?_, (ha m hm).2⟩
  have h5 := (okT_iff.1 (hk m hm)).1
  unfold okL at h5
  rw [List.all_eq_true] at h5
  exact vs_of _ 3 t (h5 _ (embTs_mem ht)) ((ha m hm).1 t ht)
theorem roomsT_drop (rs : List Int) (j : Nat) (h : j < rs.length) : roomsT (rs.drop j) = roomT rs[j] ++ roomsT (rs.drop (j + 1)) := by rw [List.drop_eq_getElem_cons h, roomsT]
theorem tasksT_drop (ms : List (List ST)) (j : Nat) (h : j < ms.length) : tasksT (ms.drop j) = wTask :: blkT ms[j] ++ tasksT (ms.drop (j + 1)) := by rw [List.drop_eq_getElem_cons h, tasksT]
theorem good_roomsT : ∀ rs : List Int, (∀ r ∈ rs, 1 ≤ r ∧ r ≤ 4) → Good (roomsT rs)
 | [], _ => .nil
 | r :: rs, h => by
  have h1 := h r (by simp)
  rw [roomsT]
  exact (Good.cons (word_tok (by decide)) (by decide) (Good.cons (dec_tok _) (dec_len (by omega) (by omega)) good_semi)).app (good_roomsT rs (fun x hx => h x (by simp [hx])))
theorem good_tasksT {boxes : Int} (hbx : boxes ≤ 3) : ∀ ms : List (List ST), (∀ m ∈ ms, ∀ t ∈ m, VS boxes t) → Good (tasksT ms)
 | [], _ => .nil
 | m :: ms, h => by
  rw [tasksT]
  exact (Good.cons (word_tok (by decide)) (by decide) (good_blk (good_sTs hbx m (h m (by simp))))).app (good_tasksT hbx ms (fun x hx => h x (by simp [hx])))
theorem good_pT {rs : List Int} {ms : List (List ST)} (h : VP rs ms) : Good (pT rs ms) :=
 (good_roomsT rs h.rooms).app (good_tasksT (boxes := (rs.length : Int)) (by have := h.nr; omega) ms (fun m hm => (h.vs m hm).1))
theorem len_roomsT : ∀ rs : List Int, (roomsT rs).length = 3 * rs.length
 | [] => rfl
 | r :: rs => by rw [roomsT, List.length_append, len_roomsT rs, List.length_cons]; show 3 + _ = _; omega
theorem len_blk {boxes : Int} (m : List ST) (h : ∀ t ∈ m, VS boxes t) (hc : cT m ≤ 16) : (blkT m).length ≤ 2722 := by
 have := len_sTs m h
 have e : (blkT m).length = (sTs m).length + 2 := by simp [blkT]
 omega
theorem len_tasksT {boxes : Int} : ∀ ms : List (List ST), (∀ m ∈ ms, (∀ t ∈ m, VS boxes t) ∧ cT m ≤ 16) → (tasksT ms).length ≤ 2723 * ms.length
 | [], _ => by simp [tasksT]
 | m :: ms, h => by
  have h1 := len_blk m (h m (by simp)).1 (h m (by simp)).2
  have h2 := len_tasksT ms (fun x hx => h x (by simp [hx]))
  rw [tasksT, List.length_append, List.length_cons, List.length_cons]
  omega
theorem len_pT {rs : List Int} {ms : List (List ST)} (h : VP rs ms) : (pT rs ms).length ≤ 8200 := by
 have h1 := len_roomsT rs
 have h2 := len_tasksT ms h.vs
 have := h.nr
 have := h.nm
 unfold pT
 rw [List.length_append]
 omega
theorem text_len {rs : List Int} {ms : List (List ST)} (h : VP rs ms) : (joinT (pT rs ms)).length ≤ 1000000 := by
 have h1 := joinT_len 5 (pT rs ms) (fun t ht => (good_pT h t ht).2)
 have h2 := len_pT h
 omega
theorem rdSSm (ms : List (List ST)) (j : Nat) (h : j < ms.length) : rd_L4 (ms.map embTs) (j : Int) = embTs ms[j] := by
 rw [rdSS_nat _ j (by rw [List.length_map]; exact h), List.getElem_map]
theorem implText_l1 {rs : List Int} {ms : List (List ST)} (h : VP rs ms) : ∀ (d j : Nat) (out : List (List UInt8)), j + d = ms.length → out ++ tasksT (ms.drop j) = pT rs ms →
    EvP (fun k => impl_ProgramText.l1 k (out.map ba) (ms.map embTs) ((ms.map embTs).length : Int) (j : Int)) (· = ba (joinT (pT rs ms)))
  | 0, j, out, hj, ho => by
    have e : out = pT rs ms := by rw [← ho, List.drop_eq_nil_of_le (by omega), tasksT, List.append_nil]
    have hl := len_pT h
    have hg := good_pT h
    refine EvP.step (fun k => impl_ProgramText.l1.eq_2 (k := k) ..) (EvP.no (by rw [List.length_map]; omega) ?_)
    rw [e]
    exact EvP.bindEq (impl_TokensText_ev _ (by omega) (fun t ht => by have := (hg t ht).2; omega) (fun t ht => (hg t ht).1) (by have := text_len h; omega)) (EvP.ret rfl)
  | d + 1, j, out, hj, ho => by
    have hj' : j < ms.length := by omega
    have hm := h.vs ms[j] (by simp)
    have hl := len_pT h
    have hb := len_blk ms[j] hm.1 hm.2
    have hle : out.length ≤ 8200 := by
      have := congrArg List.length ho
      rw [List.length_append] at this
      omega
    have hn := h.nm
    refine EvP.step (fun k => impl_ProgramText.l1.eq_2 (k := k) ..) (EvP.yes (by rw [List.length_map]; omega) (EvP.yes (by omega) (EvP.yes (by rw [List.length_map]; omega) (EvP.yes (by rw [List.length_map]; omega) ?_))))
    rw [rdSSm ms j hj']
    refine EvP.bindEq (impl_blockTokens_ev (boxes := (rs.length : Int)) (by have := h.nr; omega) 16 ms[j] hm.2 (by omega) hm.1 _ (by rw [List.length_append, List.length_map]; show _ + 1 + _ + _ ≤ _; omega)) ?_
    rw [w64 (by omega) (by omega), show (j : Int) + 1 = ((j + 1 : Nat) : Int) by omega]
    have e2 : out.map ba ++ [(⟨#[116, 97, 115, 107]⟩ : ByteArray)] ++ (blkT ms[j]).map ba = (out ++ wTask :: blkT ms[j]).map ba := by
      simp
      rfl
    rw [e2]
    exact implText_l1 h d (j + 1) _ (by omega) (by rw [← ho, tasksT_drop ms j hj']; simp)
theorem implText_l0 {rs : List Int} {ms : List (List ST)} (h : VP rs ms) : ∀ (d j : Nat) (out : List (List UInt8)), j + d = rs.length → out ++ roomsT (rs.drop j) ++ tasksT ms = pT rs ms →
    EvP (fun k => impl_ProgramText.l0 k (out.map ba) rs (rs.length : Int) (j : Int) rs (ms.map embTs)) (· = ba (joinT (pT rs ms)))
  | 0, j, out, hj, ho => by
    refine EvP.step (fun k => impl_ProgramText.l0.eq_2 (k := k) ..) (EvP.no (by omega) ?_)
    exact implText_l1 h ms.length 0 out (by omega) (by rw [← ho, show rs.drop j = [] from List.drop_eq_nil_of_le (by omega)]; simp [roomsT])
  | d + 1, j, out, hj, ho => by
    have hj' : j < rs.length := by omega
    have hr := h.rooms rs[j] (by simp)
    have hl := len_pT h
    have hn := h.nr
    have hle : out.length ≤ 8200 := by
      have := congrArg List.length ho
      rw [List.length_append, List.length_append] at this
      omega
    refine EvP.step (fun k => impl_ProgramText.l0.eq_2 (k := k) ..) (EvP.yes (by omega) (EvP.yes (by omega) (EvP.yes (by omega) ?_)))
    rw [rd_nat rs j hj']
    refine EvP.bind0 (Itoa_eq (by omega) (by omega)) (EvP.bind0 rfl (EvP.yes (by rw [List.length_map]; show _ + 3 < _; omega) ?_))
    rw [w64 (by omega) (by omega), show (j : Int) + 1 = ((j + 1 : Nat) : Int) by omega]
    have e2 : out.map ba ++ [(⟨#[98, 111, 120]⟩ : ByteArray), ba (dec rs[j]), (⟨#[59]⟩ : ByteArray)] = (out ++ roomT rs[j]).map ba := by
      rw [List.map_append]
      rfl
    rw [e2]
    exact implText_l0 h d (j + 1) _ (by omega) (by rw [← ho, roomsT_drop rs j hj']; simp)
theorem specText_l1 {rs : List Int} {ms : List (List ST)} (h : VP rs ms) : ∀ (d j : Nat) (out : List (List UInt8)), j + d = ms.length → out ++ tasksT (ms.drop j) = pT rs ms →
    EvP (fun k => spec_ProgramText.l1 k (out.map ba) (j : Int) rs (ms.map embTs)) (· = ba (joinT (pT rs ms)))
  | 0, j, out, hj, ho => by
    have e : out = pT rs ms := by rw [← ho, List.drop_eq_nil_of_le (by omega), tasksT, List.append_nil]
    have hl := len_pT h
    have hg := good_pT h
    refine EvP.step (fun k => spec_ProgramText.l1.eq_2 (k := k) ..) (EvP.no (by rw [List.length_map]; omega) ?_)
    rw [e]
    exact EvP.bindEq (spec_TokensText_ev _ (by omega) (fun t ht => by have := (hg t ht).2; omega) (fun t ht => (hg t ht).1) (by have := text_len h; omega)) (EvP.ret rfl)
  | d + 1, j, out, hj, ho => by
    have hj' : j < ms.length := by omega
    have hm := h.vs ms[j] (by simp)
    have hl := len_pT h
    have hb := len_blk ms[j] hm.1 hm.2
    have hle : out.length ≤ 8200 := by
      have := congrArg List.length ho
      rw [List.length_append] at this
      omega
    have hn := h.nm
    refine EvP.step (fun k => spec_ProgramText.l1.eq_2 (k := k) ..) (EvP.yes (by rw [List.length_map]; omega) (EvP.yes (by rw [List.length_map]; omega) (EvP.bind0 rfl (EvP.yes (by omega) ?_))))
    rw [rdSSm ms j hj']
    refine EvP.bindEq (spec_l13Block_ev (boxes := (rs.length : Int)) (by have := h.nr; omega) 16 ms[j] hm.2 (by omega) hm.1) (EvP.yes (by rw [List.length_append, List.length_map, List.length_map]; show _ + 1 + _ < _; omega) ?_)
    rw [w64 (by omega) (by omega), show (j : Int) + 1 = ((j + 1 : Nat) : Int) by omega]
    have e2 : out.map ba ++ [(⟨#[116, 97, 115, 107]⟩ : ByteArray)] ++ (blkT ms[j]).map ba = (out ++ wTask :: blkT ms[j]).map ba := by
      simp
      rfl
    rw [e2]
    exact specText_l1 h d (j + 1) _ (by omega) (by rw [← ho, tasksT_drop ms j hj']; simp)
theorem specText_p0 {rs : List Int} {ms : List (List ST)} (h : VP rs ms) : ∀ (d j : Nat) (out : List (List UInt8)), j + d = rs.length → out ++ roomsT (rs.drop j) ++ tasksT ms = pT rs ms →
    EvP (fun k => spec_ProgramText.l0 k (out.map ba) (j : Int) rs (ms.map embTs)) (· = ba (joinT (pT rs ms)))
  | 0, j, out, hj, ho => by
    refine EvP.step (fun k => spec_ProgramText.l0.eq_2 (k := k) ..) (EvP.no (by omega) ?_)
    exact specText_l1 h ms.length 0 out (by omega) (by rw [← ho, show rs.drop j = [] from List.drop_eq_nil_of_le (by omega)]; simp [roomsT])
  | d + 1, j, out, hj, ho => by
    have hj' : j < rs.length := by omega
    have hr := h.rooms rs[j] (by simp)
    have hl := len_pT h
    have hn := h.nr
    have hle : out.length ≤ 8200 := by
      have := congrArg List.length ho
      rw [List.length_append, List.length_append] at this
      omega
    refine EvP.step (fun k => spec_ProgramText.l0.eq_2 (k := k) ..) (EvP.yes (by omega) (EvP.yes (by omega) ?_))
    rw [rd_nat rs j hj']
    refine EvP.bindEq (spec_l6Dec_ev rs[j].toNat rs[j] (by omega) (by omega) (by omega)) (EvP.bind0 rfl (EvP.yes (by rw [List.length_map]; show _ + 3 < _; omega) ?_))
    rw [w64 (by omega) (by omega), show (j : Int) + 1 = ((j + 1 : Nat) : Int) by omega]
    have e2 : out.map ba ++ [(⟨#[98, 111, 120]⟩ : ByteArray), ba (dec rs[j]), (⟨#[59]⟩ : ByteArray)] = (out ++ roomT rs[j]).map ba := by
      rw [List.map_append]
      rfl
    rw [e2]
    exact specText_p0 h d (j + 1) _ (by omega) (by rw [← ho, roomsT_drop rs j hj']; simp)
theorem impl_ProgramText_yes {rs : List Int} {ms : List (List ST)} (hr : rs.length ≤ 1000000000) (ht : Smalls (ms.map embTs)) (h : VP rs ms) (hp : progOk rs (ms.map embTs) = true) : EvP (fun k => impl_ProgramText.f k rs (ms.map embTs)) (· = ba (joinT (pT rs ms))) := by
  unfold impl_ProgramText.f
  exact EvP.bindEq (impl_ProgramValid_ev rs _ hr ht) (EvP.yes hp (implText_l0 h rs.length 0 [] (by omega) rfl))
theorem spec_ProgramText_yes {rs : List Int} {ms : List (List ST)} (hr : rs.length ≤ 1000000000) (ht : Smalls (ms.map embTs)) (h : VP rs ms) (hp : progOk rs (ms.map embTs) = true) : EvP (fun k => spec_ProgramText.f k rs (ms.map embTs)) (· = ba (joinT (pT rs ms))) := by
  unfold spec_ProgramText.f
  exact EvP.bindEq (spec_ProgramValid_ev rs _ hr ht) (EvP.yes hp (specText_p0 h rs.length 0 [] (by omega) rfl))
theorem impl_ProgramText_no {rs : List Int} {ts : List (List S58)} (hr : rs.length ≤ 1000000000) (ht : Smalls ts) (hp : progOk rs ts = false) : EvP (fun k => impl_ProgramText.f k rs ts) (· = (⟨#[]⟩ : ByteArray)) := by
  unfold impl_ProgramText.f
  exact EvP.bindEq (impl_ProgramValid_ev rs _ hr ht) (EvP.no (by rw [hp]; exact Bool.false_ne_true) (EvP.ret rfl))
theorem spec_ProgramText_no {rs : List Int} {ts : List (List S58)} (hr : rs.length ≤ 1000000000) (ht : Smalls ts) (hp : progOk rs ts = false) : EvP (fun k => spec_ProgramText.f k rs ts) (· = (⟨#[]⟩ : ByteArray)) := by
  unfold spec_ProgramText.f
  exact EvP.bindEq (spec_ProgramValid_ev rs _ hr ht) (EvP.no (by rw [hp]; exact Bool.false_ne_true) (EvP.ret rfl))
theorem progTexts (rs : List Int) (ts : List (List S58)) (hr : rs.length ≤ 1000000000) (ht : Smalls ts) : ∃ r, EvP (fun k => spec_ProgramText.f k rs ts) (· = r) ∧ EvP (fun k => impl_ProgramText.f k rs ts) (· = r) := by
  cases hp : progOk rs ts with
  | false => exact ⟨_, spec_ProgramText_no hr ht hp, impl_ProgramText_no hr ht hp⟩
  | true =>
    obtain ⟨ms, e, hv, _⟩ := vp_of hp
    subst e
    exact ⟨_, spec_ProgramText_yes hr ht hv hp, impl_ProgramText_yes hr ht hv hp⟩
end Go.Proofs.YtjamfkpgmkhbnaaGreatDoor.PA

namespace Go.Proofs.YtjamfkpgmkhbnaaGreatDoor.Pure
open Go.RowKit Go.Proofs.YtjamfkpgmkhbnaaGreatDoor.PA Go.Proofs.YtjamfkpgmkhbnaaGreatDoorW.PrintWords Go.Proofs.YtjamfkpgmkhbnaaGreatDoorW.PrintLast Go.Proofs.YtjamfkpgmkhbnaaGreatDoorW.PrintMore Go.Proofs.YtjamfkpgmkhbnaaGreatDoor.Core
theorem FnExactProgramText : laws_FnExactProgramText.Pure := by
 intro rs ts hr hl
 refine EvP.ends (r := true) ?_
 unfold laws_FnExactProgramText.f
 refine EvP.bind (szProgram_ev rs ts hr.1 hl.1 hl.2) fun n hn => EvP.ite (fun _ => EvP.ret rfl) (fun h => ?_)
 rcases hn with hn | ⟨h1, h2⟩
 ·exact absurd hn h
 have hto := toProgram_ev rs ts h1 h2
 have hs := smalls_trSS ts h2
 obtain ⟨r, e1, e2⟩ := progTexts rs (trSS ts) (by omega) hs
 refine EvP.bindEq hto (EvP.bindEq e1 (EvP.bindEq hto (EvP.bindEq e2 (EvP.yes rfl (EvP.bindEq hto (EvP.bindEq (eqProgram_ev rs ts h1 h2) (EvP.yes rfl (EvP.ret rfl))))))))
end Go.Proofs.YtjamfkpgmkhbnaaGreatDoor.Pure

namespace Go.Proofs.YtjamfkpgmkhbnaaGreatDoor.LaidT
open Go.ChangeShapes Go.WideShapes Go.ChangeAt Go.RowKit Go.Proofs.YtjamfkpgmkhbnaaGreatDoor
set_option linter.unusedVariables false
abbrev laidL : List (String × DataW Unit) := [("math/bits.deBruijn32tab", Rows.laid_math_bits_deBruijn32tab), ("math/bits.deBruijn64tab", Rows.laid_math_bits_deBruijn64tab), ("internal/strconv.uint64pow10", Rows.laid_internal_strconv_uint64pow10), ("loop.example/cothreads/impl.opTexts", Rows.laid_loop_example_cothreads_impl_opTexts)]
theorem cells_of_strs {H : Type} {enc : TypeId × Value → H} {P : Program} {w : World} {base : Nat} {sp : Nat → Bool} {held : Bool} {fuel : Nat} {t e : TypeId} {n : Nat} {cs : List Value} {bs : List (List UInt8)} {p : List MemPlace}
    (ht : P.underlying t = some (.array n e)) (he : P.underlying e = some .string) (hce : P.cellsOf e = 1) (hct : P.cellsOf t = n)
    (h : DataW.trod enc P w base sp held fuel t cs = some (.agg (bs.map fun b => .lit (.string b)), p)) : cs = bs.map fun b => Value.string ⟨b.toArray⟩ := by
  cases fuel with
  | zero => simp [DataW.trod] at h
  | succ fuel =>
    simp only [DataW.trod, ht, hce, hct, Nat.mul_one] at h
    split at h
    · rename_i hl
      obtain ⟨xs, hm, hx⟩ := Option.map_eq_some_iff.1 h
      have hxs : xs.map (·.1) = bs.map fun b => (DataW.lit (.string b) : DataW H) := by
        have := congrArg Prod.fst hx
        simpa using this
      have hxl : xs.length = n := by simpa using Lib.mapM_length hm
      have hzl : bs.length = n := by
        have := congrArg List.length hxs
        simp at this
        omega
      apply List.ext_getElem?
      intro i
      by_cases hi : i < n
      · obtain ⟨b, hb, hf⟩ := Lib.mapM_at hm i i (by simp [hi])
        obtain ⟨s, hc, rfl, _⟩ := DataW.trod_string he hf
        have h1 : cs[i]? = some (.string s) := by
          have := congrArg (·[0]?) hc
          simpa [List.getElem?_take, List.getElem?_drop] using this
        have h2 : (xs.map (·.1))[i]? = some (DataW.lit (.string s.data.toList) : DataW H) := by simp [hb]
        rw [hxs] at h2
        simp only [List.getElem?_map, Option.map_eq_some_iff, DataW.lit.injEq, Lit.string.injEq] at h2
        obtain ⟨z', hz', e'⟩ := h2
        rw [h1, List.getElem?_map, hz', e']
        rfl
      · rw [List.getElem?_eq_none (by omega), List.getElem?_eq_none (by simp; omega)]
    · cases h
theorem strs_of_head {P : Program} {W : World} {name : String} {bs : List (List UInt8)} {rest : List (String × DataW Unit)} {g : Nat} {t e : TypeId} {n : Nat}
    (hg : P.globalNamed name = some g) (hty : (P.globals[g]?).map (·.type) = some t) (ht : P.underlying t = some (.array n e)) (he : P.underlying e = some .string) (hce : P.cellsOf e = 1) (hct : P.cellsOf t = n)
    (h : laidMet P ((name, .agg (bs.map fun b => .lit (.string b))) :: rest) W) : W.var? P name = some (bs.map fun b => Value.string ⟨b.toArray⟩).toArray := by
  obtain ⟨ps, ⟨g', t', cs, fuel, p, q, hg', ht', hvar, hd, _, _⟩, _⟩ := h
  obtain rfl := Option.some.inj (hg.symm.trans hg')
  obtain rfl := Option.some.inj (hty.symm.trans ht')
  rw [hvar, ← cells_of_strs ht he hce hct hd]
theorem door_met (os : Os) (args : Array Value) : laidMetH Tryz.prog laidL ((World.doorLaid Tryz.prog 29 os).forCall (fun _ _ => 0) ⟨#[], args, []⟩).memory :=
 laidMetH_of_parts3 (fuel := 8) (laidMet_of_run' 8 (by kernel_rfl) (by kernel_rfl)) (by kernel_rfl) (by kernel_rfl)
theorem tabOf {W : World} (h0 : laidMetH Tryz.prog laidL W) : PA.Tab W := by
 have h : laidMet Tryz.prog laidL W := by rwa [MakeChecks.laidMetH_plain _ _ _ (by kernel_rfl)] at h0
 exact ⟨Lib.tabIs_of_head (g := 0) (t := 140) (e := 121) (n := 20) (by kernel_rfl) (by kernel_rfl) (by kernel_rfl) (by kernel_rfl) (by kernel_rfl) (by kernel_rfl) (laidMet.tail (laidMet.tail h)),
  (strs_of_head (g := 1) (t := 146) (e := 9) (n := 12) (bs := [[124], [94], [38], [61, 61], [60], [60, 60], [62, 62], [43], [45], [42], [47], [37]]) (by kernel_rfl) (by kernel_rfl) (by kernel_rfl) (by kernel_rfl) (by kernel_rfl) (by kernel_rfl) (laidMet.tail (laidMet.tail (laidMet.tail h)))).trans (by kernel_rfl)⟩
theorem var_below {P : Program} {w w' : World} {nm : String} {a : Array Value} (h : w.var? P nm = some a) (hb : Below w.heap.size w w') : w'.var? P nm = some a := PA.var_below h hb
theorem laidOut : laidOutB Tryz.prog = true := by kernel_rfl
theorem var_stays {H : Type} {enc : TypeId × Value → H} {W W' : World} {cs : Array Value} {d : DataW H} {p : List MemPlace} (hv : W.var? Tryz.prog "loop.example/cothreads/impl.opTexts" = some cs)
  (hd : ∃ fuel, DataW.trod enc Tryz.prog W 0 (fun _ => true) true fuel 146 cs.toList = some (d, p)) (hb : Below W.heap.size W W') :
  ∃ p', DataW.TrodVars enc Tryz.prog W' (fun b => decide (b < W.heap.size)) ["loop.example/cothreads/impl.opTexts"] [d] p' := by
 obtain ⟨fuel, hd⟩ := hd
 have hT : DataW.Trod enc Tryz.prog W 0 (fun _ => true) true 146 (.agg cs) d p := ⟨fuel, hd⟩
 obtain ⟨fuel', h2⟩ := Below.trod laidOut (by kernel_rfl) (of_decide_eq_true (by kernel_rfl)) hT hb (DataW.trod_lt fuel _ _ _ hd)
 exact ⟨_, trodVars_mk1 (g := 1) (t := 146) (by kernel_rfl) (by kernel_rfl) (PA.var_below hv hb) h2⟩
end Go.Proofs.YtjamfkpgmkhbnaaGreatDoor.LaidT


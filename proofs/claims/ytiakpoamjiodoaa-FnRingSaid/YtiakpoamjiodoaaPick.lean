/- The reader of a code: what it picks, and how far it goes. -/
import Derived.Test.YtiakpoamjiodoaaPAx1
import Derived.Test.YtiakpoamjiodoaaCore
namespace Go.Proofs.Ytiakpoamjiodoaa.PA
open Go.RowKit Go.Proofs.YtiakpoamjiodoaaW.PrintWords Go.Proofs.Ytiakpoamjiodoaa.Core
theorem xor_nonneg (x y : Int) (hx : 0 ≤ x) (hx1 : x < 4611686018427387904) (hy : 0 ≤ y) (hy1 : y < 4611686018427387904) : 0 ≤ Go.bits .xor .i64 x y := by
  obtain ⟨a, rfl⟩ := Int.eq_ofNat_of_zero_le hx
  obtain ⟨b, rfl⟩ := Int.eq_ofNat_of_zero_le hy
  have ha : a < 2 ^ 62 := by omega
  have hb : b < 2 ^ 62 := by omega
  have hx := Nat.xor_lt_two_pow ha hb
  simp only [Go.bits, BitVec.ofInt_natCast, BitVec.toNat_xor, BitVec.toNat_ofNat]
  rw [show IntKind.i64.bits = 64 from rfl, Nat.mod_eq_of_lt (a := a) (by omega), Nat.mod_eq_of_lt (a := b) (by omega), IntKind.wrap_i64]
  omega
/-- What is read: few bytes. -/
def Bytes (b : List Int) : Prop := b.length ≤ 2000 ∧ ∀ x ∈ b, 0 ≤ x ∧ x ≤ 255
theorem Bytes.rd {b : List Int} (h : Bytes b) (i : Int) (h0 : 0 ≤ i) (h1 : i < b.length) : 0 ≤ Go.Proofs.YtiakpoamjiodoaaW.PrintWords.rd b i ∧ Go.Proofs.YtiakpoamjiodoaaW.PrintWords.rd b i ≤ 255 := h.2 _ (rd_mem b i h0 h1)
theorem open_bytes (l : List Int) (hl : l.length ≤ 140737488351232) (hw : ∀ x ∈ l, (Lit.int .u8 x).wf = true) : ∃ b, spec_l6Open.f l = some (b, 0) ∧ Bytes b := by
  have hb : ∀ x ∈ l, 0 ≤ x ∧ x ≤ 255 := by
    intro x hx
    have h := hw x hx
    simp only [Lit.wf, Bool.and_eq_true, decide_eq_true_eq] at h
    have e1 : IntKind.u8.min = 0 := by decide
    have e2 : IntKind.u8.max = 255 := by decide
    omega
  unfold spec_l6Open.f
  by_cases h : (l.length : Int) > 2000
  · rw [if_pos h, if_pos (by omega)]
    exact ⟨_, rfl, by rw [List.length_take]; omega, fun x hx => hb x (List.mem_of_mem_take hx)⟩
  · rw [if_neg h]
    exact ⟨_, rfl, by omega, hb⟩
/-- A pick: the place goes on by one. -/
def Picked (p n : Int) (r : Int × Int) : Prop := r.2 = p + 1 ∧ 0 ≤ r.1 ∧ (1 ≤ n → r.1 < n) ∧ (n < 1 → r.1 = 0)
theorem pick_ev (b : List Int) (hb : Bytes b) (p n : Int) (h0 : 0 ≤ p) (h1 : p ≤ 1000000000000) : EvP (fun k => spec_l6Rd_pick.f k b p n) (Picked p n) := by
  unfold spec_l6Rd_pick.f
  rw [w64 (n := p + 1) (by omega) (by omega)]
  have hz : EvP (fun k => spec_l6Rd_pick.j0 k n true b (p + 1)) (fun r => r.2 = p + 1 ∧ r.1 = 0) :=
    EvP.step (fun k => spec_l6Rd_pick.j0.eq_2 (k := k) ..) (EvP.yes rfl (EvP.ret ⟨rfl, rfl⟩))
  refine EvP.ite (fun h => ?_) (fun h => ?_)
  · exact hz.mono fun r hr => ⟨hr.1, by omega, fun _ => by omega, fun _ => hr.2⟩
  · cases hl : ((b.length : Int) == 0) with
    | true => exact hz.mono fun r hr => ⟨hr.1, by omega, fun _ => by omega, fun _ => hr.2⟩
    | false =>
      have hl' : (b.length : Int) ≠ 0 := by simpa using hl
      have hbl := hb.1
      refine EvP.step (fun k => spec_l6Rd_pick.j0.eq_2 (k := k) ..) (EvP.no (by decide) ?_)
      rw [w64 (n := p + 1 - 1) (by omega) (by omega), show p + 1 - 1 = p by omega]
      refine EvP.ite (fun h2 => ?_) (fun h2 => ?_)
      · refine EvP.yes h0 (EvP.no (by omega) (EvP.ret ?_))
        have hr := hb.rd p h0 h2
        rw [w64 (by omega) (by omega)]
        have ht := tm_range hr.1 (show 0 < n by omega)
        exact ⟨rfl, ht.1, fun _ => ht.2, fun _ => by omega⟩
      · have t1 := tm_range h0 (show (0 : Int) < b.length by omega)
        have t2 := tm_range (show 0 ≤ p * 7 + 3 by omega) (show (0 : Int) < b.length by omega)
        rw [w64 (n := p * 7) (by omega) (by omega), w64 (n := p * 7 + 3) (by omega) (by omega)]
        refine EvP.no hl' (EvP.yes t1.1 (EvP.yes t1.2 (EvP.yes t2.1 (EvP.yes t2.2 (EvP.no (by omega) (EvP.ret ?_))))))
        have r1 := hb.rd _ t1.1 t1.2
        have r2 := hb.rd _ t2.1 t2.2
        have hd0 : 0 ≤ Int.tdiv p b.length := Int.tdiv_nonneg h0 (by omega)
        have hd1 : Int.tdiv p b.length ≤ p := by
          rw [Int.tdiv_eq_ediv_of_nonneg h0]
          exact Int.ediv_le_self _ h0
        generalize Go.Proofs.YtiakpoamjiodoaaW.PrintWords.rd b (Int.tmod p b.length) = x1 at *
        generalize Go.Proofs.YtiakpoamjiodoaaW.PrintWords.rd b (Int.tmod (p * 7 + 3) b.length) = x2 at *
        generalize Int.tdiv p b.length = q at *
        simp only [w64 (n := x1) (by omega) (by omega), w64 (n := x2) (by omega) (by omega), w64 (n := q) (by omega) (by omega)]
        simp only [w64 (n := x1 * 131) (by omega) (by omega), w64 (n := x2 * 1117) (by omega) (by omega), w64 (n := p * 29) (by omega) (by omega), w64 (n := q * 53) (by omega) (by omega)]
        simp only [w64 (n := x1 * 131 + x2 * 1117) (by omega) (by omega)]
        simp only [w64 (n := x1 * 131 + x2 * 1117 + p * 29) (by omega) (by omega)]
        simp only [w64 (n := x1 * 131 + x2 * 1117 + p * 29 + q * 53) (by omega) (by omega)]
        have hs0 : 0 ≤ x1 * 131 + x2 * 1117 + p * 29 + q * 53 := by omega
        have hs1 : x1 * 131 + x2 * 1117 + p * 29 + q * 53 < 1000000000000000 := by omega
        generalize x1 * 131 + x2 * 1117 + p * 29 + q * 53 = s at *
        have hv0 : 0 ≤ Int.tdiv s 64 := Int.tdiv_nonneg hs0 (by omega)
        have hv1 : Int.tdiv s 64 ≤ s := by
          rw [Int.tdiv_eq_ediv_of_nonneg hs0]
          exact Int.ediv_le_self _ hs0
        rw [w64 (n := Int.tdiv s 64) (by omega) (by omega)]
        have hx := xor_nonneg s (Int.tdiv s 64) hs0 (by omega) hv0 (by omega)
        have ht := tm_range hx (show 0 < n by omega)
        exact ⟨rfl, ht.1, fun _ => ht.2, fun _ => by omega⟩
/-- A pick, and what follows. -/
theorem pick_then {β : Type} {b : List Int} (hb : Bytes b) {p n : Int} (h0 : 0 ≤ p) (h1 : p ≤ 1000000000000) {f : Nat → Int × Int → Option β} {R : β → Prop}
    (k : ∀ v, 0 ≤ v → (1 ≤ n → v < n) → (n < 1 → v = 0) → EvP (fun m => f m (v, p + 1)) R) : EvP (fun m => (spec_l6Rd_pick.f m b p n).bind (f m)) R :=
  EvP.bind (pick_ev b hb p n h0 h1) (fun r hr => by
    obtain ⟨v, q⟩ := r
    obtain ⟨e, k0, k1, k2⟩ := hr
    obtain rfl : q = p + 1 := e
    exact k v k0 k1 k2)
end Go.Proofs.Ytiakpoamjiodoaa.PA

/- Operators over words: plain facts on numbers. -/
import Derived.Test.YtiakpoamjiodoaaCore
import Derived.Laws.BitsLemmas
namespace Go.Proofs.Ytiakpoamjiodoaa.PA
open Go.RowKit Go.Proofs.YtiakpoamjiodoaaW.PrintWords Go.Proofs.YtiakpoamjiodoaaW.PrintMore Go.Proofs.Ytiakpoamjiodoaa.Core
def vw (n : Int) : Bool := decide (-2147483648 ≤ n) && decide (n ≤ 2147483647)
theorem vw_iff {n : Int} : vw n = true ↔ -2147483648 ≤ n ∧ n ≤ 2147483647 := by
  unfold vw
  rw [Bool.and_eq_true, decide_eq_true_eq, decide_eq_true_eq]
theorem wrap_nat (z : BitVec 64) : IntKind.i64.wrap (z.toNat : Int) = z.toInt := by
  rw [IntKind.wrap_i64, BitVec.toInt_eq_toNat_cond]
  have := z.isLt
  split <;> omega
theorem word_sext {a : Int} (h : vw a = true) : BitVec.ofInt 64 a = (BitVec.ofInt 32 a).signExtend 64 := by
  have h := vw_iff.1 h
  apply BitVec.eq_of_toInt_eq
  rw [BitVec.toInt_signExtend_of_le (by omega), BitVec.toInt_ofInt, BitVec.toInt_ofInt]
  have e1 : a.bmod (2 ^ 64) = a := Int.bmod_eq_of_le (by omega) (by omega)
  have e2 : a.bmod (2 ^ 32) = a := Int.bmod_eq_of_le (by omega) (by omega)
  rw [e1, e2]
theorem vw_sext (z : BitVec 32) : vw ((z.signExtend 64).toInt) = true := by
  rw [BitVec.toInt_signExtend_of_le (by omega), vw_iff]
  have h1 := BitVec.toInt_lt (x := z)
  have h2 := BitVec.le_toInt (x := z)
  omega
theorem or_word {a b : Int} (ha : vw a = true) (hb : vw b = true) : vw (Go.bits .or .i64 a b) = true := by
  show vw (IntKind.i64.wrap ((BitVec.ofInt 64 a ||| BitVec.ofInt 64 b).toNat : Int)) = true
  rw [wrap_nat, word_sext ha, word_sext hb, ← BitVec.signExtend_or]
  exact vw_sext _
theorem xor_word {a b : Int} (ha : vw a = true) (hb : vw b = true) : vw (Go.bits .xor .i64 a b) = true := by
  show vw (IntKind.i64.wrap ((BitVec.ofInt 64 a ^^^ BitVec.ofInt 64 b).toNat : Int)) = true
  rw [wrap_nat, word_sext ha, word_sext hb, ← BitVec.signExtend_xor]
  exact vw_sext _
theorem and_word {a b : Int} (ha : vw a = true) (hb : vw b = true) : vw (Go.bits .and .i64 a b) = true := by
  show vw (IntKind.i64.wrap ((BitVec.ofInt 64 a &&& BitVec.ofInt 64 b).toNat : Int)) = true
  rw [wrap_nat, word_sext ha, word_sext hb, ← BitVec.signExtend_and]
  exact vw_sext _
theorem or_swap (a b : Int) : Go.bits .or .i64 a b = Go.bits .or .i64 b a := by
  simp only [Go.bits]
  rw [BitVec.or_comm]
theorem xor_swap (a b : Int) : Go.bits .xor .i64 a b = Go.bits .xor .i64 b a := by
  simp only [Go.bits]
  rw [BitVec.xor_comm]
theorem and_swap (a b : Int) : Go.bits .and .i64 a b = Go.bits .and .i64 b a := by
  simp only [Go.bits]
  rw [BitVec.and_comm]
theorem and31 (b : Int) : 0 ≤ Go.bits .and .i64 b 31 ∧ Go.bits .and .i64 b 31 ≤ 31 := by
  simp only [Go.bits]
  rw [show IntKind.i64.bits = 64 from rfl, IntKind.wrap_i64, BitVec.toNat_and]
  have h : (BitVec.ofInt 64 b).toNat &&& (BitVec.ofInt 64 31).toNat ≤ (BitVec.ofInt 64 31).toNat := Nat.and_le_right
  have e : (BitVec.ofInt 64 31).toNat = 31 := by decide
  rw [e] at h ⊢
  omega
theorem w32_vw (a : Int) : vw (wrap32 a) = true := by
  rw [vw_iff]
  unfold wrap32
  omega
theorem w32_word {a : Int} (h : vw a = true) : wrap32 a = a := by
  have h := vw_iff.1 h
  unfold wrap32
  omega
theorem w32_w64 (a : Int) : wrap32 (wrap64 a) = wrap32 a := by
  unfold wrap32 wrap64
  omega
theorem w64_w32 (a : Int) : wrap64 (wrap32 a) = wrap32 a := by
  unfold wrap32 wrap64
  omega
theorem tm_word {a b : Int} (h : vw a = true) : vw (Int.tmod a b) = true := by
  have h := vw_iff.1 h
  rw [vw_iff]
  have e : (Int.tmod a b).natAbs ≤ a.natAbs := by
    rw [Int.natAbs_tmod]
    exact Nat.mod_le _ _
  rcases Int.le_total 0 a with h0 | h0
  · have := Int.tmod_nonneg b h0
    omega
  · have : 0 ≤ Int.tmod (-a) b := Int.tmod_nonneg b (by omega)
    rw [Int.neg_tmod] at this
    omega
/-- The value of an operator. -/
def ap (op a b : Int) : Int :=
  if op = 1 then Go.bits .or .i64 a b else if op = 2 then Go.bits .xor .i64 a b else if op = 3 then Go.bits .and .i64 a b
  else if op = 4 then (if a = b then 1 else 0) else if op = 5 then (if a < b then 1 else 0)
  else if op = 6 then wrap32 (shl .i64 a (Go.bits .and .i64 b 31)) else if op = 7 then shr .i64 a (Go.bits .and .i64 b 31)
  else if op = 8 then wrap32 (a + b) else if op = 9 then wrap32 (a - b) else if op = 10 then wrap32 (a * b)
  else if op = 11 then (if b = 0 then -1 else wrap32 (Int.tdiv a b)) else if b = 0 then a else Int.tmod a b
theorem shr_word {a : Int} (s : Int) (h : vw a = true) : vw (shr .i64 a s) = true := by
  have h := vw_iff.1 h
  rw [vw_iff]
  unfold shr
  have hp : (1 : Int) ≤ 2 ^ min s.toNat IntKind.i64.bits := by
    have : 0 < (2 : Int) ^ min s.toNat IntKind.i64.bits := Int.pow_pos (by omega)
    omega
  generalize (2 : Int) ^ min s.toNat IntKind.i64.bits = p at hp
  constructor
  · rw [Int.le_ediv_iff_mul_le (by omega)]
    have : (-2147483648 : Int) * p ≤ -2147483648 * 1 := Int.mul_le_mul_of_nonpos_left (by omega) hp
    omega
  · have : a / p ≤ 2147483647 / p := Int.ediv_le_ediv (by omega) h.2
    have h2 : (2147483647 : Int) / p ≤ 2147483647 := Int.ediv_le_self _ (by omega)
    omega
theorem ite_vw {c : Prop} [Decidable c] {a b : Int} (ha : vw a = true) (hb : vw b = true) : vw (if c then a else b) = true := by
  split
  · exact ha
  · exact hb
theorem ap_word (op : Int) {a b : Int} (ha : vw a = true) (hb : vw b = true) : vw (ap op a b) = true :=
  ite_vw (or_word ha hb) (ite_vw (xor_word ha hb) (ite_vw (and_word ha hb) (ite_vw (ite_vw (by decide) (by decide)) (ite_vw (ite_vw (by decide) (by decide))
    (ite_vw (w32_vw _) (ite_vw (shr_word _ ha) (ite_vw (w32_vw _) (ite_vw (w32_vw _) (ite_vw (w32_vw _) (ite_vw (ite_vw (by decide) (w32_vw _)) (ite_vw ha (tm_word ha))))))))))))
theorem ap_swap {op : Int} (a b : Int) (h : 1 ≤ op ∧ op ≤ 4 ∨ op = 8 ∨ op = 10) : ap op a b = ap op b a := by
  have hc : op = 1 ∨ op = 2 ∨ op = 3 ∨ op = 4 ∨ op = 8 ∨ op = 10 := by omega
  rcases hc with rfl | rfl | rfl | rfl | rfl | rfl
  · exact or_swap a b
  · exact xor_swap a b
  · exact and_swap a b
  · simp only [ap]
    by_cases e : a = b
    · subst e
      rfl
    · simp [e, Ne.symm e]
  · simp [ap, Int.add_comm]
  · simp [ap, Int.mul_comm]
end Go.Proofs.Ytiakpoamjiodoaa.PA

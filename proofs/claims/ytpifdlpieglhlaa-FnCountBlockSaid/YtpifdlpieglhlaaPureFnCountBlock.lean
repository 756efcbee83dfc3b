import Derived.Test.YtpifdlpieglhlaaCore
import Derived.Laws.BitsLemmas
import Derived.Test.YtpifdlpieglhlaaPAx1
import Derived.Test.YtpifdlpieglhlaaPAx0
import Derived.Test.YtpifdlpieglhlaaPAxSFnCountBlock
/- Operators over words: plain facts on numbers. -/
namespace Go.Proofs.Ytpifdlpieglhlaa.PA
open Go.RowKit Go.Proofs.YtpifdlpieglhlaaW.PrintWords Go.Proofs.YtpifdlpieglhlaaW.PrintMore Go.Proofs.Ytpifdlpieglhlaa.Core
def vw (n : Int) : Bool := decide (-2147483648 ≤ n) && decide (n ≤ 2147483647)
theorem vw_iff {n : Int} : vw n = true ↔ -2147483648 ≤ n ∧ n ≤ 2147483647 := by
  unfold vw
  rw [Bool.and_eq_true, decide_eq_true_eq, decide_eq_true_eq]
theorem wrap_nat (z : BitVec 64) : IntKind.i64.wrap (z.toNat : Int) = z.toInt := by
  rw [IntKind.wrap_i64, BitVec.toInt_eq_toNat_cond]
  have := z.isLt
  split <;> omega
theorem word_sext {a : Int} (h : vw a = true) : BitVec.ofInt 64 a = (BitVec.ofInt 32 a).signExtend 64 := by
  have h := vw_iff.1 h
  apply BitVec.eq_of_toInt_eq
  rw [BitVec.toInt_signExtend_of_le (by omega), BitVec.toInt_ofInt, BitVec.toInt_ofInt]
  have e1 : a.bmod (2 ^ 64) = a := Int.bmod_eq_of_le (by omega) (by omega)
  have e2 : a.bmod (2 ^ 32) = a := Int.bmod_eq_of_le (by omega) (by omega)
  rw [e1, e2]
theorem vw_sext (z : BitVec 32) : vw ((z.signExtend 64).toInt) = true := by
  rw [BitVec.toInt_signExtend_of_le (by omega), vw_iff]
  have h1 := BitVec.toInt_lt (x := z)
  have h2 := BitVec.le_toInt (x := z)
  omega
theorem or_word {a b : Int} (ha : vw a = true) (hb : vw b = true) : vw (Go.bits .or .i64 a b) = true := by
  show vw (IntKind.i64.wrap ((BitVec.ofInt 64 a ||| BitVec.ofInt 64 b).toNat : Int)) = true
  rw [wrap_nat, word_sext ha, word_sext hb, ← BitVec.signExtend_or]
  exact vw_sext _
theorem xor_word {a b : Int} (ha : vw a = true) (hb : vw b = true) : vw (Go.bits .xor .i64 a b) = true := by
  show vw (IntKind.i64.wrap ((BitVec.ofInt 64 a ^^^ BitVec.ofInt 64 b).toNat : Int)) = true
  rw [wrap_nat, word_sext ha, word_sext hb, ← BitVec.signExtend_xor]
  exact vw_sext _
theorem and_word {a b : Int} (ha : vw a = true) (hb : vw b = true) : vw (Go.bits .and .i64 a b) = true := by
  show vw (IntKind.i64.wrap ((BitVec.ofInt 64 a &&& BitVec.ofInt 64 b).toNat : Int)) = true
  rw [wrap_nat, word_sext ha, word_sext hb, ← BitVec.signExtend_and]
  exact vw_sext _
theorem or_swap (a b : Int) : Go.bits .or .i64 a b = Go.bits .or .i64 b a := by
  simp only [Go.bits]
  rw [BitVec.or_comm]
theorem xor_swap (a b : Int) : Go.bits .xor .i64 a b = Go.bits .xor .i64 b a := by
  simp only [Go.bits]
  rw [BitVec.xor_comm]
theorem and_swap (a b : Int) : Go.bits .and .i64 a b = Go.bits .and .i64 b a := by
  simp only [Go.bits]
  rw [BitVec.and_comm]
theorem and31 (b : Int) : 0 ≤ Go.bits .and .i64 b 31 ∧ Go.bits .and .i64 b 31 ≤ 31 := by
  simp only [Go.bits]
  rw [show IntKind.i64.bits = 64 from rfl, IntKind.wrap_i64, BitVec.toNat_and]
  have h : (BitVec.ofInt 64 b).toNat &&& (BitVec.ofInt 64 31).toNat ≤ (BitVec.ofInt 64 31).toNat := Nat.and_le_right
  have e : (BitVec.ofInt 64 31).toNat = 31 := by decide
  rw [e] at h ⊢
  omega
theorem w32_vw (a : Int) : vw (wrap32 a) = true := by
  rw [vw_iff]
  unfold wrap32
  omega
theorem w32_word {a : Int} (h : vw a = true) : wrap32 a = a := by
  have h := vw_iff.1 h
  unfold wrap32
  omega
theorem w32_w64 (a : Int) : wrap32 (wrap64 a) = wrap32 a := by
  unfold wrap32 wrap64
  omega
theorem w64_w32 (a : Int) : wrap64 (wrap32 a) = wrap32 a := by
  unfold wrap32 wrap64
  omega
theorem tm_word {a b : Int} (h : vw a = true) : vw (Int.tmod a b) = true := by
  have h := vw_iff.1 h
  rw [vw_iff]
  have e : (Int.tmod a b).natAbs ≤ a.natAbs := by
    rw [Int.natAbs_tmod]
    exact Nat.mod_le _ _
  rcases Int.le_total 0 a with h0 | h0
  · have := Int.tmod_nonneg b h0
    omega
  · have : 0 ≤ Int.tmod (-a) b := Int.tmod_nonneg b (by omega)
    rw [Int.neg_tmod] at this
    omega
/-- The value of an operator. -/
def ap (op a b : Int) : Int :=
  if op = 1 then Go.bits .or .i64 a b else if op = 2 then Go.bits .xor .i64 a b else if op = 3 then Go.bits .and .i64 a b
  else if op = 4 then (if a = b then 1 else 0) else if op = 5 then (if a < b then 1 else 0)
  else if op = 6 then wrap32 (shl .i64 a (Go.bits .and .i64 b 31)) else if op = 7 then shr .i64 a (Go.bits .and .i64 b 31)
  else if op = 8 then wrap32 (a + b) else if op = 9 then wrap32 (a - b) else if op = 10 then wrap32 (a * b)
  else if op = 11 then (if b = 0 then -1 else wrap32 (Int.tdiv a b)) else if b = 0 then a else Int.tmod a b
theorem shr_word {a : Int} (s : Int) (h : vw a = true) : vw (shr .i64 a s) = true := by
  have h := vw_iff.1 h
  rw [vw_iff]
  unfold shr
  have hp : (1 : Int) ≤ 2 ^ min s.toNat IntKind.i64.bits := by
    have : 0 < (2 : Int) ^ min s.toNat IntKind.i64.bits := Int.pow_pos (by omega)
    omega
  generalize (2 : Int) ^ min s.toNat IntKind.i64.bits = p at hp
  constructor
  · rw [Int.le_ediv_iff_mul_le (by omega)]
    have : (-2147483648 : Int) * p ≤ -2147483648 * 1 := Int.mul_le_mul_of_nonpos_left (by omega) hp
    omega
  · have : a / p ≤ 2147483647 / p := Int.ediv_le_ediv (by omega) h.2
    have h2 : (2147483647 : Int) / p ≤ 2147483647 := Int.ediv_le_self _ (by omega)
    omega
theorem ite_vw {c : Prop} [Decidable c] {a b : Int} (ha : vw a = true) (hb : vw b = true) : vw (if c then a else b) = true := by
  split
  · exact ha
  · exact hb
theorem ap_word (op : Int) {a b : Int} (ha : vw a = true) (hb : vw b = true) : vw (ap op a b) = true :=
  ite_vw (or_word ha hb) (ite_vw (xor_word ha hb) (ite_vw (and_word ha hb) (ite_vw (ite_vw (by decide) (by decide)) (ite_vw (ite_vw (by decide) (by decide))
    (ite_vw (w32_vw _) (ite_vw (shr_word _ ha) (ite_vw (w32_vw _) (ite_vw (w32_vw _) (ite_vw (w32_vw _) (ite_vw (ite_vw (by decide) (w32_vw _)) (ite_vw ha (tm_word ha))))))))))))
theorem ap_swap {op : Int} (a b : Int) (h : 1 ≤ op ∧ op ≤ 4 ∨ op = 8 ∨ op = 10) : ap op a b = ap op b a := by
  have hc : op = 1 ∨ op = 2 ∨ op = 3 ∨ op = 4 ∨ op = 8 ∨ op = 10 := by omega
  rcases hc with rfl | rfl | rfl | rfl | rfl | rfl
  · exact or_swap a b
  · exact xor_swap a b
  · exact and_swap a b
  · simp only [ap]
    by_cases e : a = b
    · subst e
      rfl
    · simp [e, Ne.symm e]
  · simp [ap, Int.add_comm]
  · simp [ap, Int.mul_comm]
end Go.Proofs.Ytpifdlpieglhlaa.PA

/- Words and lists of words: what the small functions of the program and of the reference come to. -/
namespace Go.Proofs.Ytpifdlpieglhlaa.PA
open Go.RowKit Go.Proofs.YtpifdlpieglhlaaW.PrintWords Go.Proofs.Ytpifdlpieglhlaa.Core
theorem l6In_eq (a b c : Int) : spec_l6In.f a b c = some (decide (b ≤ a) && decide (a ≤ c)) := by
  unfold spec_l6In.f
  by_cases h : a ≥ b
  · rw [if_pos h, decide_eq_true h, Bool.true_and]
  · rw [if_neg h, decide_eq_false h, Bool.false_and]
/-- What 'mark' leaves: counted on from k. -/
def marked : Nat → Int → List Int
  | 0, _ => []
  | n + 1, k => k :: marked n (k + 1)
theorem marked_length : ∀ n k, (marked n k).length = n
  | 0, _ => rfl
  | n + 1, k => by rw [marked, List.length_cons, marked_length n]
end Go.Proofs.Ytpifdlpieglhlaa.PA

/- The reader of a code: what it picks, and how far it goes. -/
namespace Go.Proofs.Ytpifdlpieglhlaa.PA
open Go.RowKit Go.Proofs.YtpifdlpieglhlaaW.PrintWords Go.Proofs.Ytpifdlpieglhlaa.Core
theorem xor_nonneg (x y : Int) (hx : 0 ≤ x) (hx1 : x < 4611686018427387904) (hy : 0 ≤ y) (hy1 : y < 4611686018427387904) : 0 ≤ Go.bits .xor .i64 x y := by
  obtain ⟨a, rfl⟩ := Int.eq_ofNat_of_zero_le hx
  obtain ⟨b, rfl⟩ := Int.eq_ofNat_of_zero_le hy
  have ha : a < 2 ^ 62 := by omega
  have hb : b < 2 ^ 62 := by omega
  have hx := Nat.xor_lt_two_pow ha hb
  simp only [Go.bits, BitVec.ofInt_natCast, BitVec.toNat_xor, BitVec.toNat_ofNat]
  rw [show IntKind.i64.bits = 64 from rfl, Nat.mod_eq_of_lt (a := a) (by omega), Nat.mod_eq_of_lt (a := b) (by omega), IntKind.wrap_i64]
  omega
/-- What is read: few bytes. -/
def Bytes (b : List Int) : Prop := b.length ≤ 2000 ∧ ∀ x ∈ b, 0 ≤ x ∧ x ≤ 255
theorem Bytes.rd {b : List Int} (h : Bytes b) (i : Int) (h0 : 0 ≤ i) (h1 : i < b.length) : 0 ≤ Go.Proofs.YtpifdlpieglhlaaW.PrintWords.rd b i ∧ Go.Proofs.YtpifdlpieglhlaaW.PrintWords.rd b i ≤ 255 := h.2 _ (rd_mem b i h0 h1)
theorem open_bytes (l : List Int) (hl : l.length ≤ 140737488351232) (hw : ∀ x ∈ l, (Lit.int .u8 x).wf = true) : ∃ b, spec_l6Open.f l = some (b, 0) ∧ Bytes b := by
  have hb : ∀ x ∈ l, 0 ≤ x ∧ x ≤ 255 := by
    intro x hx
    have h := hw x hx
    simp only [Lit.wf, Bool.and_eq_true, decide_eq_true_eq] at h
    have e1 : IntKind.u8.min = 0 := by decide
    have e2 : IntKind.u8.max = 255 := by decide
    omega
  unfold spec_l6Open.f
  by_cases h : (l.length : Int) > 2000
  · rw [if_pos h, if_pos (by omega)]
    exact ⟨_, rfl, by rw [List.length_take]; omega, fun x hx => hb x (List.mem_of_mem_take hx)⟩
  · rw [if_neg h]
    exact ⟨_, rfl, by omega, hb⟩
/-- A pick: the place goes on by one. -/
def Picked (p n : Int) (r : Int × Int) : Prop := r.2 = p + 1 ∧ 0 ≤ r.1 ∧ (1 ≤ n → r.1 < n) ∧ (n < 1 → r.1 = 0)
theorem pick_ev (b : List Int) (hb : Bytes b) (p n : Int) (h0 : 0 ≤ p) (h1 : p ≤ 1000000000000) : EvP (fun k => spec_l6Rd_pick.f k b p n) (Picked p n) := by
  unfold spec_l6Rd_pick.f
  rw [w64 (n := p + 1) (by omega) (by omega)]
  have hz : EvP (fun k => spec_l6Rd_pick.j0 k n true b (p + 1)) (fun r => r.2 = p + 1 ∧ r.1 = 0) :=
    EvP.step (fun k => spec_l6Rd_pick.j0.eq_2 (k := k) ..) (EvP.yes rfl (EvP.ret ⟨rfl, rfl⟩))
  refine EvP.ite (fun h => ?_) (fun h => ?_)
  · exact hz.mono fun r hr => ⟨hr.1, by omega, fun _ => by omega, fun _ => hr.2⟩
  · cases hl : ((b.length : Int) == 0) with
    | true => exact hz.mono fun r hr => ⟨hr.1, by omega, fun _ => by omega, fun _ => hr.2⟩
    | false =>
      have hl' : (b.length : Int) ≠ 0 := by simpa using hl
      have hbl := hb.1
      refine EvP.step (fun k => spec_l6Rd_pick.j0.eq_2 (k := k) ..) (EvP.no (by decide) ?_)
      rw [w64 (n := p + 1 - 1) (by omega) (by omega), show p + 1 - 1 = p by omega]
      refine EvP.ite (fun h2 => ?_) (fun h2 => ?_)
      · refine EvP.yes h0 (EvP.no (by omega) (EvP.ret ?_))
        have hr := hb.rd p h0 h2
        rw [w64 (by omega) (by omega)]
        have ht := tm_range hr.1 (show 0 < n by omega)
        exact ⟨rfl, ht.1, fun _ => ht.2, fun _ => by omega⟩
      · have t1 := tm_range h0 (show (0 : Int) < b.length by omega)
        have t2 := tm_range (show 0 ≤ p * 7 + 3 by omega) (show (0 : Int) < b.length by omega)
        rw [w64 (n := p * 7) (by omega) (by omega), w64 (n := p * 7 + 3) (by omega) (by omega)]
        refine EvP.no hl' (EvP.yes t1.1 (EvP.yes t1.2 (EvP.yes t2.1 (EvP.yes t2.2 (EvP.no (by omega) (EvP.ret ?_))))))
        have r1 := hb.rd _ t1.1 t1.2
        have r2 := hb.rd _ t2.1 t2.2
        have hd0 : 0 ≤ Int.tdiv p b.length := Int.tdiv_nonneg h0 (by omega)
        have hd1 : Int.tdiv p b.length ≤ p := by
          rw [Int.tdiv_eq_ediv_of_nonneg h0]
          exact Int.ediv_le_self _ h0
        generalize Go.Proofs.YtpifdlpieglhlaaW.PrintWords.rd b (Int.tmod p b.length) = x1 at *
        generalize Go.Proofs.YtpifdlpieglhlaaW.PrintWords.rd b (Int.tmod (p * 7 + 3) b.length) = x2 at *
        generalize Int.tdiv p b.length = q at *
        simp only [w64 (n := x1) (by omega) (by omega), w64 (n := x2) (by omega) (by omega), w64 (n := q) (by omega) (by omega)]
        simp only [w64 (n := x1 * 131) (by omega) (by omega), w64 (n := x2 * 1117) (by omega) (by omega), w64 (n := p * 29) (by omega) (by omega), w64 (n := q * 53) (by omega) (by omega)]
        simp only [w64 (n := x1 * 131 + x2 * 1117) (by omega) (by omega)]
        simp only [w64 (n := x1 * 131 + x2 * 1117 + p * 29) (by omega) (by omega)]
        simp only [w64 (n := x1 * 131 + x2 * 1117 + p * 29 + q * 53) (by omega) (by omega)]
        have hs0 : 0 ≤ x1 * 131 + x2 * 1117 + p * 29 + q * 53 := by omega
        have hs1 : x1 * 131 + x2 * 1117 + p * 29 + q * 53 < 1000000000000000 := by omega
        generalize x1 * 131 + x2 * 1117 + p * 29 + q * 53 = s at *
        have hv0 : 0 ≤ Int.tdiv s 64 := Int.tdiv_nonneg hs0 (by omega)
        have hv1 : Int.tdiv s 64 ≤ s := by
          rw [Int.tdiv_eq_ediv_of_nonneg hs0]
          exact Int.ediv_le_self _ hs0
        rw [w64 (n := Int.tdiv s 64) (by omega) (by omega)]
        have hx := xor_nonneg s (Int.tdiv s 64) hs0 (by omega) hv0 (by omega)
        have ht := tm_range hx (show 0 < n by omega)
        exact ⟨rfl, ht.1, fun _ => ht.2, fun _ => by omega⟩
/-- A pick, and what follows. -/
theorem pick_then {β : Type} {b : List Int} (hb : Bytes b) {p n : Int} (h0 : 0 ≤ p) (h1 : p ≤ 1000000000000) {f : Nat → Int × Int → Option β} {R : β → Prop}
    (k : ∀ v, 0 ≤ v → (1 ≤ n → v < n) → (n < 1 → v = 0) → EvP (fun m => f m (v, p + 1)) R) : EvP (fun m => (spec_l6Rd_pick.f m b p n).bind (f m)) R :=
  EvP.bind (pick_ev b hb p n h0 h1) (fun r hr => by
    obtain ⟨v, q⟩ := r
    obtain ⟨e, k0, k1, k2⟩ := hr
    obtain rfl : q = p + 1 := e
    exact k v k0 k1 k2)
end Go.Proofs.Ytpifdlpieglhlaa.PA

/- What is drawn: words, lists of words. -/

namespace Go.Proofs.Ytpifdlpieglhlaa.PA
open Go.RowKit Go.Proofs.YtpifdlpieglhlaaW.PrintWords Go.Proofs.Ytpifdlpieglhlaa.Core
end Go.Proofs.Ytpifdlpieglhlaa.PA

/- Expressions as trees: plain definitions and laws, no program in sight. -/
namespace Go.Proofs.Ytpifdlpieglhlaa.PA
open Go.RowKit Go.Proofs.Ytpifdlpieglhlaa.Core
inductive X where
  | num (n : Int)
  | var (v : Int)
  | bin (op : Int) (a b : X)
namespace X
def ok : X → Prop
  | num n => 0 ≤ n ∧ n ≤ 99999
  | var v => 0 ≤ v ∧ v < 4
  | bin op a b => (1 ≤ op ∧ op ≤ 12) ∧ a.ok ∧ b.ok
def depth : X → Nat
  | num _ => 1
  | var _ => 1
  | bin _ a b => max a.depth b.depth + 1
def size : X → Nat
  | num _ => 1
  | var _ => 1
  | bin _ a b => a.size + b.size + 1
def eval (g : Int → Int) : X → Int
  | num n => n
  | var v => g v
  | bin op a b => ap op (a.eval g) (b.eval g)
def uses (v : Int) : X → Bool
  | num _ => false
  | var u => decide (u = v)
  | bin _ a b => a.uses v || b.uses v
/-- An operation over two simplified ones. -/
def foldB (op : Int) : X → X → X
  | num m, num n => if 0 ≤ ap op m n ∧ ap op m n ≤ 99999 then num (ap op m n) else bin op (num m) (num n)
  | a, b => bin op a b
def fold : X → X
  | num n => num n
  | var v => var v
  | bin op a b => foldB op a.fold b.fold
def isNum : X → Bool
  | num _ => true
  | _ => false
theorem one_le_depth : ∀ x : X, 1 ≤ x.depth
  | num _ | var _ => Nat.le_refl _
  | bin _ _ _ => Nat.le_add_left _ _
theorem one_le_size : ∀ x : X, 1 ≤ x.size
  | num _ | var _ => Nat.le_refl _
  | bin _ _ _ => Nat.le_add_left _ _
theorem size_depth : ∀ x : X, x.size + 1 ≤ 2 ^ x.depth
  | num _ | var _ => by simp [size, depth]
  | bin _ a b => by
    have ha := size_depth a
    have hb := size_depth b
    have h1 : 2 ^ a.depth ≤ 2 ^ max a.depth b.depth := Nat.pow_le_pow_right (by omega) (Nat.le_max_left _ _)
    have h2 : 2 ^ b.depth ≤ 2 ^ max a.depth b.depth := Nat.pow_le_pow_right (by omega) (Nat.le_max_right _ _)
    simp only [size, depth, Nat.pow_succ]
    omega
theorem eval_word {g : Int → Int} (hg : ∀ v, 0 ≤ v → v < 4 → vw (g v) = true) : ∀ x : X, x.ok → vw (x.eval g) = true
  | num n, h => by
    have h : 0 ≤ n ∧ n ≤ 99999 := h
    simp only [eval]
    rw [vw_iff]
    omega
  | var v, h => hg v h.1 h.2
  | bin op a b, h => ap_word op (eval_word hg a h.2.1) (eval_word hg b h.2.2)
theorem foldB_ok {op : Int} (ho : 1 ≤ op ∧ op ≤ 12) : ∀ {a b : X}, a.ok → b.ok → (foldB op a b).ok := by
  intro a b ha hb
  unfold foldB
  split
  · split
    · assumption
    · exact ⟨ho, ha, hb⟩
  · exact ⟨ho, ha, hb⟩
theorem fold_ok : ∀ x : X, x.ok → x.fold.ok
  | num _, h => h
  | var _, h => h
  | bin _ a b, h => foldB_ok h.1 (fold_ok a h.2.1) (fold_ok b h.2.2)
theorem foldB_depth (op : Int) (a b : X) : (foldB op a b).depth ≤ max a.depth b.depth + 1 := by
  unfold foldB
  split
  · split
    · simp [depth]
    · exact Nat.le_refl _
  · exact Nat.le_refl _
theorem fold_depth : ∀ x : X, x.fold.depth ≤ x.depth
  | num _ => Nat.le_refl _
  | var _ => Nat.le_refl _
  | bin op a b => by
    have ha := fold_depth a
    have hb := fold_depth b
    have h := foldB_depth op a.fold b.fold
    simp only [fold, depth]
    omega
theorem foldB_size (op : Int) (a b : X) : (foldB op a b).size ≤ a.size + b.size + 1 := by
  unfold foldB
  split
  · split
    · simp [size]
    · exact Nat.le_refl _
  · exact Nat.le_refl _
theorem fold_size : ∀ x : X, x.fold.size ≤ x.size
  | num _ => Nat.le_refl _
  | var _ => Nat.le_refl _
  | bin op a b => by
    have ha := fold_size a
    have hb := fold_size b
    have h := foldB_size op a.fold b.fold
    simp only [fold, size]
    omega
theorem foldB_eval (g : Int → Int) (op : Int) (a b : X) : (foldB op a b).eval g = ap op (a.eval g) (b.eval g) := by
  unfold foldB
  split
  · split
    · rfl
    · rfl
  · rfl
theorem fold_eval (g : Int → Int) : ∀ x : X, x.fold.eval g = x.eval g
  | num _ => rfl
  | var _ => rfl
  | bin op a b => by rw [fold, foldB_eval, fold_eval g a, fold_eval g b, eval]
theorem foldB_of {op : Int} {a b : X} (h : ∀ m n, a = num m → b = num n → ¬ (0 ≤ ap op m n ∧ ap op m n ≤ 99999)) : foldB op a b = bin op a b := by
  unfold foldB
  split
  · rw [if_neg (h _ _ rfl rfl)]
  · rfl
theorem foldB_stay (op : Int) (a b : X) : (foldB op a b = bin op a b) ∨ ∃ m, foldB op a b = num m := by
  unfold foldB
  split
  · split
    · exact .inr ⟨_, rfl⟩
    · exact .inl rfl
  · exact .inl rfl
theorem foldB_again (op : Int) (a b : X) (ha : a.fold = a) (hb : b.fold = b) : (foldB op a b).fold = foldB op a b := by
  rcases foldB_stay op a b with h | ⟨m, h⟩
  · rw [h, fold, ha, hb, h]
  · rw [h]
    rfl
theorem fold_again : ∀ x : X, x.fold.fold = x.fold
  | num _ => rfl
  | var _ => rfl
  | bin op a b => foldB_again op _ _ (fold_again a) (fold_again b)
theorem eval_other {g h : Int → Int} {u : Int} (hg : ∀ v, v ≠ u → g v = h v) : ∀ x : X, x.uses u = false → x.eval g = x.eval h
  | num _, _ => rfl
  | var v, hu => hg v (by simpa [uses] using hu)
  | bin op a b, hu => by
    simp only [uses, Bool.or_eq_false_iff] at hu
    rw [eval, eval, eval_other hg a hu.1, eval_other hg b hu.2]
theorem eval_other' {g h : Int → Int} {u : Int} (hg : ∀ v, 0 ≤ v → v < 4 → v ≠ u → g v = h v) : ∀ x : X, x.ok → x.uses u = false → x.eval g = x.eval h
  | num _, _, _ => rfl
  | var v, ho, hu => hg v ho.1 ho.2 (by simpa [uses] using hu)
  | bin op a b, ho, hu => by
    simp only [uses, Bool.or_eq_false_iff] at hu
    rw [eval, eval, eval_other' hg a ho.2.1 hu.1, eval_other' hg b ho.2.2 hu.2]
end X
end Go.Proofs.Ytpifdlpieglhlaa.PA

/- Expressions: what the functions of the program and of the reference come to, on valid expressions as trees. -/
namespace Go.Proofs.Ytpifdlpieglhlaa.PA
open Go.RowKit Go.Proofs.YtpifdlpieglhlaaW.PrintWords Go.Proofs.YtpifdlpieglhlaaW.PrintMore Go.Proofs.Ytpifdlpieglhlaa.Core
/-- A tree, as the program holds it. -/
def emb : X → S34
  | .num n => ⟨0, n, []⟩
  | .var v => ⟨13, v, []⟩
  | .bin op a b => ⟨op, 0, [emb a, emb b]⟩
theorem rdE_nat (l : List S34) (i : Nat) (h : i < l.length) : rd_T34 l (i : Int) = l[i] := by
  unfold rd_T34
  rw [Int.toNat_natCast, List.getD_eq_getElem?_getD, List.getElem?_eq_getElem h]
  rfl
theorem rdE_0 (a b : S34) : rd_T34 [a, b] 0 = a := rfl
theorem rdE_1 (a b : S34) : rd_T34 [a, b] 1 = b := rfl
theorem etaE (a : S34) : (⟨a.f0, a.f1, a.f2⟩ : S34) = a := by
  cases a
  rfl
/-- Is it valid with at most so much depth? -/
def vx : Nat → Int → Int → List S34 → Bool
  | 0, _, _, _ => false
  | d + 1, op, n, l =>
    if op = 0 then decide (0 ≤ n) && (decide (n ≤ 99999) && decide (l.length = 0))
    else if op = 13 then decide (0 ≤ n) && (decide (n < 4) && decide (l.length = 0))
    else decide (1 ≤ op) && (decide (op ≤ 12) && (decide (n = 0) && (match l with
      | [a, b] => vx d a.f0 a.f1 a.f2 && vx d b.f0 b.f1 b.f2
      | _ => false)))
theorem two_of {α : Type} {l : List α} (h : l.length = 2) : ∃ a b, l = [a, b] := by
  match l, h with
  | [a, b], _ => exact ⟨a, b, rfl⟩
theorem vx_tree : ∀ (d : Nat) (op n : Int) (l : List S34), vx d op n l = true → ∃ x : X, x.ok ∧ x.depth ≤ d ∧ emb x = ⟨op, n, l⟩
  | 0, _, _, _, h => by cases h
  | d + 1, op, n, l, h => by
    unfold vx at h
    by_cases h0 : op = 0
    · rw [if_pos h0] at h
      simp only [Bool.and_eq_true, decide_eq_true_eq] at h
      subst h0
      exact ⟨.num n, ⟨h.1, h.2.1⟩, by simp [X.depth], by rw [emb, List.eq_nil_of_length_eq_zero h.2.2]⟩
    · rw [if_neg h0] at h
      by_cases h13 : op = 13
      · rw [if_pos h13] at h
        simp only [Bool.and_eq_true, decide_eq_true_eq] at h
        subst h13
        exact ⟨.var n, ⟨h.1, h.2.1⟩, by simp [X.depth], by rw [emb, List.eq_nil_of_length_eq_zero h.2.2]⟩
      · rw [if_neg h13] at h
        simp only [Bool.and_eq_true, decide_eq_true_eq] at h
        obtain ⟨h1, h2, h3, h4⟩ := h
        split at h4
        · rename_i a b
          simp only [Bool.and_eq_true] at h4
          obtain ⟨x, x1, x2, x3⟩ := vx_tree d a.f0 a.f1 a.f2 h4.1
          obtain ⟨y, y1, y2, y3⟩ := vx_tree d b.f0 b.f1 b.f2 h4.2
          exact ⟨.bin op x y, ⟨⟨h1, h2⟩, x1, y1⟩, by simp only [X.depth]; omega, by rw [emb, x3, y3, h3, etaE, etaE]⟩
        · cases h4
theorem vx_emb : ∀ (x : X) (d : Nat), x.ok → (vx d (emb x).f0 (emb x).f1 (emb x).f2 = decide (x.depth ≤ d))
  | x, 0, _ => by
    have := X.one_le_depth x
    rw [decide_eq_false (by omega)]
    rfl
  | .num n, d + 1, h => by
    have h : 0 ≤ n ∧ n ≤ 99999 := h
    simp [vx, emb, X.depth, h.1, h.2]
  | .var v, d + 1, h => by
    have h : 0 ≤ v ∧ v < 4 := h
    simp [vx, emb, X.depth, h.1, h.2]
  | .bin op a b, d + 1, h => by
    have h1 := h.1
    have ha := vx_emb a d h.2.1
    have hb := vx_emb b d h.2.2
    have e0 : ¬ (op = 0) := by omega
    have e13 : ¬ (op = 13) := by omega
    have e : (X.bin op a b).depth = max a.depth b.depth + 1 := rfl
    show (if op = 0 then _ else if op = 13 then _ else decide (1 ≤ op) && (decide (op ≤ 12) && (true && (vx d (emb a).f0 (emb a).f1 (emb a).f2 && vx d (emb b).f0 (emb b).f1 (emb b).f2)))) = _
    rw [if_neg e0, if_neg e13, decide_eq_true h1.1, decide_eq_true h1.2, ha, hb, e, Bool.true_and, Bool.true_and, Bool.true_and, Bool.eq_iff_iff]
    simp only [Bool.and_eq_true, decide_eq_true_eq]
    omega
theorem impl_OpValid_eq (a : Int) : impl_OpValid.f a = some (decide (1 ≤ a) && decide (a ≤ 12)) := by
  unfold impl_OpValid.f
  by_cases h : a ≥ 1
  · rw [if_pos h, decide_eq_true h, Bool.true_and]
  · rw [if_neg h, decide_eq_false h, Bool.false_and]
theorem spec_OpValid_eq (a : Int) : spec_OpValid.f a = some (decide (1 ≤ a) && decide (a ≤ 12)) := by
  unfold spec_OpValid.f
  rw [l6In_eq]
  rfl
theorem impl_exprValid_ev : ∀ (d : Nat) (op n : Int) (l : List S34), d ≤ 1000 → EvP (fun k => impl_exprValid.f k op n l (d : Int)) (· = vx d op n l)
  | 0, op, n, l, hd => by
    refine EvP.step (fun k => impl_exprValid.f.eq_2 (k := k) ..) ?_
    refine EvP.ite (fun h => ?_) (fun h => ?_)
    · refine EvP.ite (fun _ => EvP.ite (fun _ => EvP.ite (fun _ => EvP.ret ?_) (fun _ => EvP.ret ?_)) (fun _ => EvP.ret ?_)) (fun _ => EvP.ret ?_) <;> simp [vx]
    · refine EvP.ite (fun h => ?_) (fun h => ?_)
      · refine EvP.ite (fun _ => EvP.ite (fun _ => EvP.ite (fun _ => EvP.ret ?_) (fun _ => EvP.ret ?_)) (fun _ => EvP.ret ?_)) (fun _ => EvP.ret ?_) <;> simp [vx]
      · refine EvP.bind0 (impl_OpValid_eq op) (EvP.ite (fun _ => EvP.ite (fun _ => EvP.ite (fun _ => EvP.no (by omega) (EvP.ret ?_)) (fun _ => EvP.ret ?_)) (fun _ => EvP.ret ?_)) (fun _ => EvP.ret ?_)) <;> simp [vx]
  | d + 1, op, n, l, hd => by
    refine EvP.step (fun k => impl_exprValid.f.eq_2 (k := k) ..) ?_
    unfold vx
    refine EvP.ite (fun h => ?_) (fun h => ?_)
    · rw [if_pos h]
      refine EvP.ite (fun h1 => EvP.ite (fun h2 => EvP.ite (fun h3 => EvP.ret ?_) (fun h3 => EvP.ret ?_)) (fun h2 => EvP.ret ?_)) (fun h1 => EvP.ret ?_)
      · rw [decide_eq_true (show 0 ≤ n from h1), decide_eq_true h2, decide_eq_true (show l.length = 0 by omega)]
        simp
      · rw [decide_eq_false (p := l.length = 0) (by omega)]
        simp
      · rw [decide_eq_false h2]
        simp
      · rw [decide_eq_false (p := 0 ≤ n) h1]
        simp
    · rw [if_neg h]
      refine EvP.ite (fun h => ?_) (fun h13 => ?_)
      · rw [if_pos h]
        refine EvP.ite (fun h1 => EvP.ite (fun h2 => EvP.ite (fun h3 => EvP.ret ?_) (fun h3 => EvP.ret ?_)) (fun h2 => EvP.ret ?_)) (fun h1 => EvP.ret ?_)
        · rw [decide_eq_true (show 0 ≤ n from h1), decide_eq_true h2, decide_eq_true (show l.length = 0 by omega)]
          simp
        · rw [decide_eq_false (p := l.length = 0) (by omega)]
          simp
        · rw [decide_eq_false h2]
          simp
        · rw [decide_eq_false (p := 0 ≤ n) h1]
          simp
      · rw [if_neg h13]
        refine EvP.bind0 (impl_OpValid_eq op) (EvP.ite (fun h1 => ?_) (fun h1 => EvP.ret ?_))
        · simp only [Bool.and_eq_true, decide_eq_true_eq] at h1
          rw [decide_eq_true h1.1, decide_eq_true h1.2]
          refine EvP.ite (fun h2 => ?_) (fun h2 => EvP.ret (by rw [decide_eq_false h2]; rfl))
          rw [decide_eq_true h2]
          refine EvP.ite (fun h3 => ?_) (fun h3 => EvP.ret ?_)
          · obtain ⟨a, b, rfl⟩ := two_of (show l.length = 2 by omega)
            refine EvP.ite (fun h4 => ?_) (fun h4 => EvP.ret ?_)
            · rw [w64 (by omega) (by omega), show ((d + 1 : Nat) : Int) - 1 = (d : Int) by omega, rdE_0, rdE_1]
              refine EvP.yes (by simp) (EvP.bindEq (impl_exprValid_ev d _ _ _ (by omega)) (EvP.ite (fun h5 => ?_) (fun h5 => EvP.ret ?_)))
              · refine EvP.yes (by simp) (EvP.bindEq (impl_exprValid_ev d _ _ _ (by omega)) (EvP.ret ?_))
                simp [h5]
              · simp [h5]
            · have hd0 : d = 0 := by omega
              subst hd0
              rfl
          · split
            · simp at h3
            · rfl
        · symm
          rw [Bool.eq_false_iff]
          intro e
          simp only [Bool.and_eq_true, decide_eq_true_eq] at e h1
          exact h1 ⟨e.1, e.2.1⟩
theorem spec_l4Ok_ev : ∀ (d : Nat) (op n : Int) (l : List S34), d ≤ 1000 → EvP (fun k => spec_l4Ok.f k op n l (d : Int)) (· = vx d op n l)
  | 0, op, n, l, hd => EvP.step (fun k => spec_l4Ok.f.eq_2 (k := k) ..) (EvP.yes (by omega) (EvP.ret rfl))
  | d + 1, op, n, l, hd => by
    have hlen : ((l.length : Int) == 0) = decide (l.length = 0) := by
      rw [Bool.eq_iff_iff, beq_iff_eq, decide_eq_true_eq]
      omega
    refine EvP.step (fun k => spec_l4Ok.f.eq_2 (k := k) ..) (EvP.no (by omega) ?_)
    unfold vx
    refine EvP.ite (fun h => ?_) (fun h => ?_)
    · rw [if_pos h, l6In_eq]
      refine EvP.bind0 rfl (EvP.ite (fun h1 => EvP.ret ?_) (fun h1 => EvP.ret ?_))
      · rw [hlen]
        simp only [Bool.and_eq_true, decide_eq_true_eq] at h1
        rw [decide_eq_true h1.1, decide_eq_true h1.2]
        rfl
      · rw [← Bool.and_assoc, Bool.eq_false_iff.mpr h1]
        rfl
    · rw [if_neg h]
      refine EvP.ite (fun h => ?_) (fun h13 => ?_)
      · rw [if_pos h, l6In_eq]
        have e3 : decide (n < 4) = decide (n ≤ 3) := decide_eq_decide.mpr (by omega)
        rw [e3]
        refine EvP.bind0 rfl (EvP.ite (fun h1 => EvP.ret ?_) (fun h1 => EvP.ret ?_))
        · rw [hlen]
          simp only [Bool.and_eq_true, decide_eq_true_eq] at h1
          rw [decide_eq_true h1.1, decide_eq_true h1.2]
          rfl
        · rw [← Bool.and_assoc, Bool.eq_false_iff.mpr h1]
          rfl
      · rw [if_neg h13]
        refine EvP.bind0 (spec_OpValid_eq op) (EvP.ite (fun h1 => ?_) (fun h1 => EvP.ret ?_))
        · simp only [Bool.and_eq_true, decide_eq_true_eq] at h1
          rw [decide_eq_true h1.1, decide_eq_true h1.2]
          refine EvP.ite (fun h2 => ?_) (fun h2 => EvP.ret (by rw [decide_eq_false h2]; rfl))
          rw [decide_eq_true h2]
          refine EvP.ite (fun h3 => ?_) (fun h3 => EvP.ret ?_)
          · obtain ⟨a, b, rfl⟩ := two_of (show l.length = 2 by omega)
            rw [w64 (by omega) (by omega), show ((d + 1 : Nat) : Int) - 1 = (d : Int) by omega, rdE_0, rdE_1]
            refine EvP.yes (by simp) (EvP.bindEq (spec_l4Ok_ev d _ _ _ (by omega)) (EvP.ite (fun h5 => ?_) (fun h5 => EvP.ret ?_)))
            · refine EvP.yes (by simp) (EvP.bindEq (spec_l4Ok_ev d _ _ _ (by omega)) (EvP.ret ?_))
              simp [h5]
            · simp [h5]
          · split
            · simp at h3
            · rfl
        · rw [← Bool.and_assoc, Bool.eq_false_iff.mpr h1]
          rfl
theorem spec_ExprValid_ev (op n : Int) (l : List S34) : EvP (fun k => spec_ExprValid.f k op n l) (· = vx 5 op n l) := by
  unfold spec_ExprValid.f
  exact EvP.bindEq (spec_l4Ok_ev 5 op n l (by omega)) (EvP.ret rfl)
theorem impl_ExprValid_ev (op n : Int) (l : List S34) : EvP (fun k => impl_ExprValid.f k op n l) (· = vx 5 op n l) := by
  unfold impl_ExprValid.f
  exact EvP.bindEq (impl_exprValid_ev 5 op n l (by omega)) (EvP.ret rfl)
end Go.Proofs.Ytpifdlpieglhlaa.PA

/- What is drawn: expressions, the values of variables. -/
namespace Go.Proofs.Ytpifdlpieglhlaa.PA
open Go.RowKit Go.Proofs.YtpifdlpieglhlaaW.PrintWords Go.Proofs.Ytpifdlpieglhlaa.Core
theorem l91Op_ev (b : List Int) (hb : Bytes b) (p : Int) (h0 : 0 ≤ p) (h1 : p ≤ 900000000000) : EvP (fun k => spec_l91Op.f k b p) (fun r => r.2 = p + 1 ∧ 1 ≤ r.1 ∧ r.1 ≤ 12) := by
  unfold spec_l91Op.f
  refine pick_then hb h0 (by omega) fun v v0 v1 _ => ?_
  have := v1 (by omega)
  dsimp only
  rw [w64 (by omega) (by omega)]
  exact EvP.ret (by dsimp only; omega)
theorem l91Leaf_ev (b : List Int) (hb : Bytes b) (p : Int) (h0 : 0 ≤ p) (h1 : p ≤ 900000000000) : EvP (fun k => spec_l91Leaf.f k b p) (fun r => p ≤ r.2.2.2 ∧ r.2.2.2 ≤ p + 2 ∧ r.2.2.1.length = 0) := by
  unfold spec_l91Leaf.f
  refine pick_then hb h0 (by omega) fun v v0 v1 _ => ?_
  dsimp only
  refine EvP.ite (fun h => ?_) (fun h => ?_)
  · refine pick_then hb (by omega) (by omega) fun v2 w0 w1 _ => ?_
    exact EvP.bind0 rfl (EvP.ret (by simp; omega))
  · refine EvP.ite (fun h => ?_) (fun h => ?_)
    · refine EvP.bind0 rfl (pick_then hb (by omega) (by omega) fun v2 w0 w1 _ => ?_)
      have := w1 (by omega)
      exact EvP.yes w0 (EvP.yes (by simp; omega) (EvP.bind0 rfl (EvP.ret (by simp; omega))))
    · refine pick_then hb (by omega) (by omega) fun v2 w0 w1 _ => ?_
      exact EvP.bind0 rfl (EvP.ret (by simp; omega))
theorem l91Expr_ev (b : List Int) (hb : Bytes b) : ∀ (d : Nat) (p : Int), d ≤ 10 → 0 ≤ p → p + 4 ^ (d + 1) ≤ 800000000000 → EvP (fun k => spec_l91Expr.f k b p (d : Int)) (fun r => p ≤ r.2.2.2 ∧ r.2.2.2 ≤ p + 4 ^ (d + 1) ∧ r.2.2.1.length ≤ 2) := by
  intro d
  have leaf : ∀ (d' : Int) (q : Int) (p : Int) (m : Nat), 0 ≤ q → q ≤ 800000000000 → p ≤ q → q + 2 ≤ p + 4 ^ (m + 1) → EvP (fun k => spec_l91Expr.j0 k d' true b q) (fun r => p ≤ r.2.2.2 ∧ r.2.2.2 ≤ p + 4 ^ (m + 1) ∧ r.2.2.1.length ≤ 2) := by
    intro d' q p m h0 h1 h2 h3
    refine EvP.step (fun k => spec_l91Expr.j0.eq_2 (k := k) ..) (EvP.yes rfl ?_)
    refine EvP.bind (l91Leaf_ev b hb q h0 (by omega)) fun r hr => ?_
    exact EvP.ret (by dsimp only; omega)
  induction d with
  | zero =>
    intro p hd h0 h1
    refine EvP.step (fun k => spec_l91Expr.f.eq_2 (k := k) ..) (EvP.yes (by omega) ?_)
    exact leaf _ p p 0 h0 (by omega) (by omega) (by omega)
  | succ d ih =>
    intro p hd h0 h1
    have h4 : (4 : Int) ^ (d + 1 + 1) = 4 * 4 ^ (d + 1) := by rw [Int.pow_succ, Int.mul_comm]
    have h5 : (4 : Int) ≤ 4 ^ (d + 1) := by
      have : 0 < (4 : Int) ^ d := Int.pow_pos (by omega)
      rw [Int.pow_succ]
      omega
    refine EvP.step (fun k => spec_l91Expr.f.eq_2 (k := k) ..) (EvP.ite (fun h => ?_) (fun h => ?_))
    · exact leaf _ p p (d + 1) h0 (by omega) (by omega) (by omega)
    · refine pick_then hb h0 (by omega) fun v v0 v1 _ => ?_
      dsimp only
      cases hv : (v == 0) with
      | true => exact leaf _ (p + 1) p (d + 1) (by omega) (by omega) (by omega) (by omega)
      | false =>
        refine EvP.step (fun k => spec_l91Expr.j0.eq_2 (k := k) ..) (EvP.no (by simp) ?_)
        rw [w64 (by omega) (by omega), show ((d + 1 : Nat) : Int) - 1 = (d : Int) by omega]
        refine EvP.bind (l91Op_ev b hb (p + 1) (by omega) (by omega)) fun r hr => ?_
        refine EvP.bind (ih r.2 (by omega) (by omega) (by omega)) fun s hs => ?_
        refine EvP.bind (ih s.2.2.2 (by omega) (by omega) (by omega)) fun u hu => ?_
        exact EvP.bind0 rfl (EvP.ret (by simp; omega))
theorem l91Expr_ev' (b : List Int) (hb : Bytes b) (d : Int) (p : Int) (hd0 : 0 ≤ d) (hd : d ≤ 5) (h0 : 0 ≤ p) (h1 : p ≤ 700000000000) : EvP (fun k => spec_l91Expr.f k b p d) (fun r => p ≤ r.2.2.2 ∧ r.2.2.2 ≤ p + 4096 ∧ r.2.2.1.length ≤ 2) := by
  have hp : (4 : Int) ^ (d.toNat + 1) ≤ 4096 := by
    have : d.toNat ≤ 5 := by omega
    have h2 : 4 ^ (d.toNat + 1) ≤ 4 ^ 6 := Nat.pow_le_pow_right (by omega) (by omega)
    have h3 : ((4 ^ (d.toNat + 1) : Nat) : Int) ≤ 4096 := by omega
    rw [Int.natCast_pow] at h3
    exact h3
  have h := l91Expr_ev b hb d.toNat p (by omega) h0 (by omega)
  rw [Int.toNat_of_nonneg hd0] at h
  exact h.mono fun r hr => by omega
end Go.Proofs.Ytpifdlpieglhlaa.PA

/- Statements: when they are valid, and how many they are; what the functions of the program and of the reference come to. -/
namespace Go.Proofs.Ytpifdlpieglhlaa.PA
open Go.RowKit Go.Proofs.YtpifdlpieglhlaaW.PrintWords Go.Proofs.YtpifdlpieglhlaaW.PrintMore Go.Proofs.Ytpifdlpieglhlaa.Core
mutual
def cS : S36 → Nat
  | ⟨_, _, _, _, b, e⟩ => cSs b + cSs e
def cSs : List S36 → Nat
  | [] => 0
  | x :: xs => cS x + 1 + cSs xs
end
theorem cS_f (x : S36) : cS x = cSs x.f4 + cSs x.f5 := by
  cases x
  rw [cS]
theorem cSs_length : ∀ l : List S36, l.length ≤ cSs l
  | [] => Nat.zero_le _
  | x :: xs => by
    have := cSs_length xs
    rw [cSs, List.length_cons]
    omega
theorem cSs_append : ∀ l m : List S36, cSs (l ++ m) = cSs l + cSs m
  | [], m => by rw [cSs]; simp
  | x :: xs, m => by
    rw [List.cons_append, cSs, cSs, cSs_append xs m]
    omega
theorem cSs_mem : ∀ (l : List S36) (x : S36), x ∈ l → cS x < cSs l
  | y :: ys, x, h => by
    rw [cSs]
    rcases List.mem_cons.1 h with rfl | h
    · omega
    · have := cSs_mem ys x h
      omega
theorem cSs_drop (l : List S36) (i : Nat) (h : i < l.length) : cSs (l.drop i) = cS l[i] + 1 + cSs (l.drop (i + 1)) := by
  rw [List.drop_eq_getElem_cons h, cSs]
theorem cSs_one (x : S36) : cSs [x] = cS x + 1 := by
  rw [cSs, cSs]
theorem cSs_nil : cSs [] = 0 := by rw [cSs]
theorem cSs_take_drop (l : List S36) (n : Nat) : cSs (l.take n) + cSs (l.drop n) = cSs l := by
  rw [← cSs_append, List.take_append_drop]
theorem rdS_nat (l : List S36) (i : Nat) (h : i < l.length) : rd_T36 l (i : Int) = l[i] := by
  unfold rd_T36
  rw [Int.toNat_natCast, List.getD_eq_getElem?_getD, List.getElem?_eq_getElem h]
  rfl
def varOk (use : Bool) (va : Int) : Bool := if use = true then decide (0 ≤ va) && decide (va ≤ 3) else va == 0
def boxOk (boxes : Int) (use : Bool) (bx : Int) : Bool := if use = true then decide (0 ≤ bx) && decide (bx ≤ boxes - 1) else bx == 0
def plainOk (op n : Int) (la : List S34) : Bool := op == 0 && (n == 0 && la.length == 0)
/-- A statement's fields, apart from what is in its blocks. -/
def restOk (boxes : Int) (nv nb ne nd no : Bool) (va bx op n : Int) (la : List S34) (lb le : Nat) : Bool :=
  varOk nv va && (boxOk boxes nb bx && ((if ne = true then vx 5 op n la else plainOk op n la) && ((nd || lb == 0) && (no || le == 0))))
def stOk (boxes kd va bx op n : Int) (la : List S34) (lb le : Nat) : Bool :=
  if kd = 1 then restOk boxes true false true false false va bx op n la lb le
  else if kd = 2 then restOk boxes false false true true true va bx op n la lb le
  else if kd = 3 then restOk boxes false false true true false va bx op n la lb le
  else if kd = 4 then restOk boxes false true true false false va bx op n la lb le
  else if kd = 5 then restOk boxes true true false false false va bx op n la lb le
  else if kd = 7 then restOk boxes false false true false false va bx op n la lb le
  else if kd = 6 then restOk boxes false false false false false va bx op n la lb le
  else false
def stS (boxes : Int) (s : S36) : Bool := stOk boxes s.f0 s.f1 s.f2 s.f3.f0 s.f3.f1 s.f3.f2 s.f4.length s.f5.length
def isBlk (s : S36) : Bool := s.f0 == 2 || s.f0 == 3
/-- A statement with room for so many further blocks. -/
def okOne (boxes : Int) : Nat → S36 → Bool
  | 0, s => stS boxes s && !isBlk s
  | d + 1, s => stS boxes s && (!isBlk s || (s.f4.all (okOne boxes d) && s.f5.all (okOne boxes d)))
def okL (boxes : Int) (d : Nat) (l : List S36) : Bool := l.all (okOne boxes d)
theorem okOne_st {boxes : Int} {d : Nat} {s : S36} (h : okOne boxes d s = true) : stS boxes s = true := by
  cases d <;> (simp only [okOne, Bool.and_eq_true] at h; exact h.1)
theorem stOk_flat {boxes kd va bx op n : Int} {la : List S34} {lb le : Nat} (h : stOk boxes kd va bx op n la lb le = true) (h2 : kd ≠ 2) (h3 : kd ≠ 3) : lb = 0 ∧ le = 0 := by
  unfold stOk at h
  rw [if_neg h2, if_neg h3] at h
  repeat' split at h
  all_goals first
    | (cases h; done)
    | (simp only [restOk, Bool.and_eq_true, Bool.false_or, beq_iff_eq] at h; exact h.2.2.2)
theorem flat_cS {boxes : Int} {s : S36} (h : stS boxes s = true) (h2 : ¬ (s.f0 = 2 ∨ s.f0 = 3)) : cS s = 0 := by
  obtain ⟨h4, h5⟩ := stOk_flat h (fun e => h2 (.inl e)) (fun e => h2 (.inr e))
  rw [cS_f, List.eq_nil_of_length_eq_zero h4, List.eq_nil_of_length_eq_zero h5, cSs]
theorem isBlk_iff (s : S36) : isBlk s = true ↔ s.f0 = 2 ∨ s.f0 = 3 := by
  unfold isBlk
  simp
theorem inr_var (use : Bool) (va : Int) : inr va 4 use = varOk use va := by
  rw [Bool.eq_iff_iff]
  cases use
  · simp [inr, varOk]
  · simp [inr, varOk]
    omega
theorem stv_rest_ev (nv nb ne nd no : Bool) (va bx op n : Int) (la : List S34) (lb le : Nat) (boxes : Int) :
    EvP (fun k => stv_rest k nv nb ne nd no va bx op n la lb le boxes) (· = restOk boxes nv nb ne nd no va bx op n la lb le) := by
  unfold stv_rest restOk
  rw [inr_var]
  refine EvP.ite (fun h1 => ?_) (fun h1 => EvP.ret (by rw [Bool.eq_false_iff.mpr h1]; rfl))
  rw [h1, Bool.true_and]
  have hb : (inr bx boxes nb = true ∧ ¬ (nb = true ∧ boxes ≤ bx)) ↔ boxOk boxes nb bx = true := by
    cases nb
    · simp [inr, boxOk]
    · simp [inr, boxOk]
      omega
  refine EvP.ite (fun h2 => EvP.ite (fun h3 => EvP.ret ?_) (fun h3 => ?_)) (fun h2 => EvP.ret ?_)
  · have : boxOk boxes nb bx = false := Bool.eq_false_iff.mpr (fun e => (hb.mpr e).2 h3)
    rw [this]
    rfl
  · rw [hb.mp ⟨h2, h3⟩, Bool.true_and]
    refine EvP.ite (fun h4 => ?_) (fun h4 => ?_)
    · rw [if_pos h4]
      refine EvP.bindEq (impl_ExprValid_ev op n la) (EvP.ite (fun h5 => EvP.ret (by rw [h5, Bool.true_and])) (fun h5 => EvP.ret (by rw [Bool.eq_false_iff.mpr h5]; rfl)))
    · rw [if_neg h4]
      unfold plainOk
      refine EvP.ite (fun h5 => EvP.ite (fun h6 => EvP.ite (fun h7 => EvP.ret ?_) (fun h7 => EvP.ret ?_)) (fun h6 => EvP.ret ?_)) (fun h5 => EvP.ret ?_)
      · rw [beq_eq_false_iff_ne.mpr (show la.length ≠ 0 by omega)]
        simp
      · rw [h5, h6, beq_iff_eq.mpr (show la.length = 0 by omega)]
        simp
      · rw [beq_eq_false_iff_ne.mpr h6]
        simp
      · rw [beq_eq_false_iff_ne.mpr h5]
        simp
  · have : boxOk boxes nb bx = false := Bool.eq_false_iff.mpr (fun e => h2 (hb.mpr e).1)
    rw [this]
    rfl
theorem impl_stmtValid_ev (kd va bx op n : Int) (la : List S34) (lb le : Nat) (boxes : Int) :
    EvP (fun k => impl_stmtValid.f k kd va bx op n la lb le boxes) (· = stOk boxes kd va bx op n la lb le) := by
  unfold impl_stmtValid.f stOk
  have hr := fun nv nb ne nd no => stv_rest_ev nv nb ne nd no va bx op n la lb le boxes
  repeat (refine EvP.ite (fun h => ?_) (fun h => ?_); · rw [if_pos h]; exact hr _ _ _ _ _
          rw [if_neg h])
  exact EvP.ret rfl
/-- What a block's check tells: valid, and not too many; then the count. -/
def BlkSays (boxes : Int) (d : Nat) (l : List S36) (cnt : Int) (p : Bool × Int) : Prop :=
  p.1 = (okL boxes d l && decide (cnt + cSs l ≤ 16)) ∧ (p.1 = true → p.2 = cnt + cSs l)
theorem blockValid_l0 (boxes blocks : Int) (d : Nat) (hd : d ≤ 3) (hb : blocks = 3 - d) (l : List S36) (hl : cSs l ≤ 1000000000)
    (sub : ∀ d', d = d' + 1 → ∀ (m : List S36) (cnt : Int), cSs m ≤ 1000000000 → 0 ≤ cnt → cnt ≤ 16 → EvP (fun k => impl_blockValid.f k m boxes (wrap64 (blocks + 1)) cnt) (BlkSays boxes d' m cnt)) :
    ∀ (r j : Nat) (cnt : Int), j + r = l.length → 0 ≤ cnt → cnt ≤ 16 →
      EvP (fun k => impl_blockValid.l0 k l boxes blocks (j : Int) cnt) (fun p => p.1 = (okL boxes d (l.drop j) && decide (cnt + cSs (l.drop j) - r ≤ 16)) ∧ (p.1 = true → p.2 = cnt + cSs (l.drop j) - r)) := by
  intro r
  have hlen := cSs_length l
  induction r with
  | zero =>
    intro j cnt hj h0 h1
    refine EvP.step (fun k => impl_blockValid.l0.eq_2 (k := k) ..) (EvP.no (by omega) (EvP.ret ?_))
    rw [List.drop_eq_nil_of_le (by omega), cSs_nil]
    constructor
    · simp [okL]
      omega
    · intro _
      simp
  | succ r ih =>
    intro j cnt hj h0 h1
    have hlt : j < l.length := by omega
    have hc := cSs_drop l j hlt
    have hr : r ≤ cSs (l.drop (j + 1)) := by
      have := cSs_length (l.drop (j + 1))
      rw [List.length_drop] at this
      omega
    have hm := cSs_mem l _ (List.getElem_mem hlt)
    have hcs := cS_f l[j]
    have hall : okL boxes d (l.drop j) = (okOne boxes d l[j] && okL boxes d (l.drop (j + 1))) := by
      rw [List.drop_eq_getElem_cons hlt]
      rfl
    rw [hall]
    refine EvP.step (fun k => impl_blockValid.l0.eq_2 (k := k) ..) (EvP.yes (by omega) (EvP.yes (by omega) ?_))
    rw [rdS_nat l j hlt, w64 (n := (j : Int) + 1) (by omega) (by omega)]
    refine EvP.bindEq (impl_stmtValid_ev _ _ _ _ _ _ _ _ _) (EvP.ite (fun hs => ?_) (fun hs => EvP.ret ?_))
    · have hs : stS boxes l[j] = true := hs
      refine EvP.no (by omega) (EvP.ite (fun hk => ?_) (fun hk => ?_))
      · have hbk : isBlk l[j] = true := (isBlk_iff _).mpr hk
        cases d with
        | zero =>
          refine EvP.yes (by omega) (EvP.ret ?_)
          have : okOne boxes 0 l[j] = false := by simp [okOne, hbk]
          rw [this]
          exact ⟨rfl, fun h => by cases h⟩
        | succ d' =>
          have ho : okOne boxes (d' + 1) l[j] = (okL boxes d' l[j].f4 && okL boxes d' l[j].f5) := by
            simp only [okOne, hs, hbk, okL]
            rfl
          rw [ho]
          refine EvP.no (by omega) (EvP.bind (sub d' rfl _ cnt (by omega) h0 h1) fun p hp => ?_)
          obtain ⟨hp1, hp2⟩ := hp
          refine EvP.ite (fun hy => ?_) (fun hy => EvP.ret ?_)
          · have e2 := hp2 hy
            rw [hy] at hp1
            have hq := hp1.symm
            rw [Bool.and_eq_true, decide_eq_true_eq] at hq
            rw [e2]
            refine EvP.bind (sub d' rfl _ _ (by omega) (by omega) hq.2) fun q hq' => ?_
            obtain ⟨hq1, hq2⟩ := hq'
            refine EvP.ite (fun hz => ?_) (fun hz => EvP.ret ?_)
            · have e3 := hq2 hz
              rw [hz] at hq1
              have hq3 := hq1.symm
              rw [Bool.and_eq_true, decide_eq_true_eq] at hq3
              rw [e3]
              refine (ih (j + 1) _ (by omega) (by omega) hq3.2).mono fun a ha => ?_
              rw [hq.1, hq3.1, Bool.true_and, Bool.true_and]
              refine ⟨ha.1.trans ?_, fun h => (ha.2 h).trans ?_⟩
              · congr 1
                exact decide_eq_decide.mpr (by omega)
              · omega
            · have hz' := Bool.eq_false_iff.mpr hz
              rw [hz'] at hq1
              refine ⟨?_, fun h => by cases h⟩
              show false = _
              symm
              rw [Bool.eq_false_iff]
              intro e
              simp only [Bool.and_eq_true, decide_eq_true_eq] at e
              have : (okL boxes d' l[j].f5 && decide (cnt + ↑(cSs l[j].f4) + ↑(cSs l[j].f5) ≤ 16)) = true := by
                rw [e.1.1.2, decide_eq_true (by omega)]
                rfl
              rw [this] at hq1
              cases hq1
          · have hy' := Bool.eq_false_iff.mpr hy
            rw [hy'] at hp1
            refine ⟨?_, fun h => by cases h⟩
            show false = _
            symm
            rw [Bool.eq_false_iff]
            intro e
            simp only [Bool.and_eq_true, decide_eq_true_eq] at e
            have : (okL boxes d' l[j].f4 && decide (cnt + ↑(cSs l[j].f4) ≤ 16)) = true := by
              rw [e.1.1.1, decide_eq_true (by omega)]
              rfl
            rw [this] at hp1
            cases hp1
      · have hbk : isBlk l[j] = false := Bool.eq_false_iff.mpr (fun e => hk ((isBlk_iff _).mp e))
        have ho : okOne boxes d l[j] = true := by
          cases d <;> simp [okOne, hs, hbk]
        have hz := flat_cS hs hk
        rw [ho, Bool.true_and]
        refine (ih (j + 1) cnt (by omega) h0 h1).mono fun a ha => ?_
        refine ⟨ha.1.trans ?_, fun h => (ha.2 h).trans ?_⟩
        · congr 1
          exact decide_eq_decide.mpr (by omega)
        · omega
    · have hs : stS boxes l[j] = false := Bool.eq_false_iff.mpr hs
      have ho : okOne boxes d l[j] = false := Bool.eq_false_iff.mpr (fun e => by rw [okOne_st e] at hs; cases hs)
      rw [ho]
      exact ⟨rfl, fun h => by cases h⟩
theorem impl_blockValid_ev (boxes : Int) : ∀ (d : Nat) (blocks : Int) (l : List S36) (cnt : Int), d ≤ 3 → blocks = 3 - d → cSs l ≤ 1000000000 → 0 ≤ cnt → cnt ≤ 16 →
    EvP (fun k => impl_blockValid.f k l boxes blocks cnt) (BlkSays boxes d l cnt) := by
  intro d
  induction d with
  | zero =>
    intro blocks l cnt hd hb hl h0 h1
    have hlen := cSs_length l
    refine EvP.step (fun k => impl_blockValid.f.eq_2 (k := k) ..) ?_
    rw [w64 (n := cnt + (l.length : Int)) (by omega) (by omega)]
    refine EvP.ite (fun h => EvP.ret ?_) (fun h => ?_)
    · refine ⟨?_, fun h => by cases h⟩
      rw [decide_eq_false (by omega)]
      simp
    · refine (blockValid_l0 boxes blocks 0 hd hb l hl (fun d' e => by omega) l.length 0 _ (by omega) (by omega) (by omega)).mono fun a ha => ?_
      rw [List.drop_zero] at ha
      refine ⟨ha.1.trans ?_, fun h => (ha.2 h).trans ?_⟩
      · congr 1
        exact decide_eq_decide.mpr (by omega)
      · omega
  | succ d ih =>
    intro blocks l cnt hd hb hl h0 h1
    have hlen := cSs_length l
    refine EvP.step (fun k => impl_blockValid.f.eq_2 (k := k) ..) ?_
    rw [w64 (n := cnt + (l.length : Int)) (by omega) (by omega)]
    refine EvP.ite (fun h => EvP.ret ?_) (fun h => ?_)
    · refine ⟨?_, fun h => by cases h⟩
      rw [decide_eq_false (by omega)]
      simp
    · refine (blockValid_l0 boxes blocks (d + 1) hd hb l hl (fun d' e m cnt hm h0 h1 => ?_) l.length 0 _ (by omega) (by omega) (by omega)).mono fun a ha => ?_
      · have e' : d = d' := by omega
        subst e'
        rw [w64 (by omega) (by omega)]
        exact ih _ m cnt (by omega) (by omega) hm h0 h1
      · rw [List.drop_zero] at ha
        refine ⟨ha.1.trans ?_, fun h => (ha.2 h).trans ?_⟩
        · congr 1
          exact decide_eq_decide.mpr (by omega)
        · omega
/-- A list of statements is valid, with so many mailboxes. -/
def okT (boxes : Int) (l : List S36) : Bool := okL boxes 3 l && decide (cSs l ≤ 16)
theorem impl_stmtsValid_ev (boxes : Int) (l : List S36) (hl : cSs l ≤ 1000000000) : EvP (fun k => impl_stmtsValid.f k l boxes) (· = okT boxes l) := by
  unfold impl_stmtsValid.f
  refine EvP.bind (impl_blockValid_ev boxes 3 0 l 0 (by omega) (by omega) hl (by omega) (by omega)) fun p hp => EvP.ret ?_
  rw [hp.1]
  unfold okT
  congr 1
  exact decide_eq_decide.mpr (by omega)
theorem impl_StmtsValid_ev (l : List S36) (hl : cSs l ≤ 1000000000) : EvP (fun k => impl_StmtsValid.f k l) (· = okT 3 l) := by
  unfold impl_StmtsValid.f
  exact EvP.bindEq (impl_stmtsValid_ev 3 l hl) (EvP.ret rfl)
end Go.Proofs.Ytpifdlpieglhlaa.PA

/- Statements: the reference's functions. -/
namespace Go.Proofs.Ytpifdlpieglhlaa.PA
open Go.RowKit Go.Proofs.YtpifdlpieglhlaaW.PrintWords Go.Proofs.YtpifdlpieglhlaaW.PrintMore Go.Proofs.Ytpifdlpieglhlaa.Core
theorem spec_l11Var_eq (a b c d e : Int) (l : List S34) (m n : List S36) (u : Bool) : spec_l11Var.f a b c d e l m n u = some (varOk u b) := by
  unfold spec_l11Var.f varOk
  rw [l6In_eq]
  cases u <;> rfl
theorem spec_l11Box_eq (a b c d e : Int) (l : List S34) (m n : List S36) (u : Bool) : spec_l11Box.f a b c d e l m n u = some (boxOk 3 u c) := by
  unfold spec_l11Box.f boxOk
  rw [l6In_eq]
  cases u <;> rfl
theorem spec_l11Plain_eq (op n : Int) (l : List S34) : spec_l11Plain.f op n l = some (plainOk op n l) := by
  unfold spec_l11Plain.f plainOk
  have hlen : ((l.length : Int) == 0) = (l.length == 0) := by
    rw [Bool.eq_iff_iff, beq_iff_eq, beq_iff_eq]
    omega
  by_cases h : op = 0
  · rw [if_pos h, h]
    by_cases h2 : n = 0
    · rw [if_pos h2, h2, hlen]
      rfl
    · rw [if_neg h2, beq_eq_false_iff_ne.mpr h2]
      rfl
  · rw [if_neg h, beq_eq_false_iff_ne.mpr h]
    rfl
theorem spec_l11Simple_ev (kd va bx op n : Int) (la : List S34) (m1 m2 : List S36) (h2 : kd ≠ 2) (h3 : kd ≠ 3) :
    EvP (fun k => spec_l11Simple.f k kd va bx op n la m1 m2) (· = stOk 3 kd va bx op n la m1.length m2.length) := by
  unfold spec_l11Simple.f
  have yes : ∀ b : Bool, ((m1.length == 0 && m2.length == 0) = !b) → EvP (fun k => spec_l11Simple.j0 k b kd va bx op n la m1 m2) (· = stOk 3 kd va bx op n la m1.length m2.length) := by
    intro b hb
    refine EvP.step (fun k => spec_l11Simple.j0.eq_2 (k := k) ..) ?_
    refine EvP.ite (fun h => EvP.ret ?_) (fun h => ?_)
    · symm
      rw [Bool.eq_false_iff]
      intro e
      obtain ⟨z1, z2⟩ := stOk_flat e h2 h3
      rw [z1, z2, h] at hb
      cases hb
    · have hb' : (m1.length == 0 && m2.length == 0) = true := by
        rw [hb, Bool.eq_false_iff.mpr h]
        rfl
      unfold stOk
      have hT : ∀ a b c : Bool, (a && (b && (c && ((false || m1.length == 0) && (false || m2.length == 0))))) = (a && (b && c)) := by
        intro a b c
        rw [Bool.false_or, Bool.false_or, hb', Bool.and_true]
      refine EvP.ite (fun h1 => ?_) (fun h1 => ?_)
      · rw [if_pos h1]
        unfold restOk
        rw [hT]
        refine EvP.bind0 (spec_l11Var_eq ..) (EvP.ite (fun hv => EvP.bind0 (spec_l11Box_eq ..) (EvP.ite (fun hx => EvP.bindEq (spec_ExprValid_ev ..) (EvP.ret ?_)) (fun hx => EvP.ret ?_))) (fun hv => EvP.ret ?_)) <;> simp [*]
      · rw [if_neg h1, if_neg h2, if_neg h3]
        refine EvP.ite (fun h1 => ?_) (fun h1 => ?_)
        · rw [if_pos h1]
          unfold restOk
          rw [hT]
          refine EvP.bind0 (spec_l11Var_eq ..) (EvP.ite (fun hv => EvP.bind0 (spec_l11Box_eq ..) (EvP.ite (fun hx => EvP.bindEq (spec_ExprValid_ev ..) (EvP.ret ?_)) (fun hx => EvP.ret ?_))) (fun hv => EvP.ret ?_)) <;> simp [*]
        · rw [if_neg h1]
          refine EvP.ite (fun h1 => ?_) (fun h1 => ?_)
          · rw [if_pos h1]
            unfold restOk
            rw [hT]
            refine EvP.bind0 (spec_l11Var_eq ..) (EvP.ite (fun hv => EvP.bind0 (spec_l11Box_eq ..) (EvP.ite (fun hx => EvP.bind0 (spec_l11Plain_eq ..) (EvP.ret ?_)) (fun hx => EvP.ret ?_))) (fun hv => EvP.ret ?_)) <;> simp [*]
          · rw [if_neg h1]
            refine EvP.ite (fun h6 => ?_) (fun h6 => ?_)
            · rw [if_neg (by omega), if_pos h6]
              unfold restOk
              rw [hT]
              refine EvP.bind0 (spec_l11Var_eq ..) (EvP.ite (fun hv => EvP.bind0 (spec_l11Box_eq ..) (EvP.ite (fun hx => EvP.bind0 (spec_l11Plain_eq ..) (EvP.ret ?_)) (fun hx => EvP.ret ?_))) (fun hv => EvP.ret ?_)) <;> simp [*]
            · refine EvP.ite (fun h7 => ?_) (fun h7 => ?_)
              · rw [if_pos h7]
                unfold restOk
                rw [hT]
                refine EvP.bind0 (spec_l11Var_eq ..) (EvP.ite (fun hv => EvP.bind0 (spec_l11Box_eq ..) (EvP.ite (fun hx => EvP.bindEq (spec_ExprValid_ev ..) (EvP.ret ?_)) (fun hx => EvP.ret ?_))) (fun hv => EvP.ret ?_)) <;> simp [*]
              · rw [if_neg h7, if_neg h6]
                exact EvP.ret rfl
  refine EvP.ite (fun h => yes true ?_) (fun h => yes _ ?_)
  · rw [beq_eq_false_iff_ne.mpr (show m1.length ≠ 0 by omega)]
    rfl
  · rw [beq_iff_eq.mpr (show m1.length = 0 by omega), Bool.true_and, ← decide_not, Bool.eq_iff_iff, beq_iff_eq, decide_eq_true_eq]
    omega
theorem spec_l11Blocks_l0 (l : List S36) (hl : l.length ≤ 1000000000) (x1 : Int) (d : Nat) (sub : ∀ x ∈ l, EvP (fun k => spec_l11Ok.f k x.f0 x.f1 x.f2 x.f3.f0 x.f3.f1 x.f3.f2 x.f4 x.f5 x1) (· = okOne 3 d x)) :
    ∀ (r j : Nat), j + r = l.length → EvP (fun k => spec_l11Blocks.l0 k l x1 (j : Int)) (· = okL 3 d (l.drop j)) := by
  intro r
  induction r with
  | zero =>
    intro j hj
    refine EvP.step (fun k => spec_l11Blocks.l0.eq_2 (k := k) ..) (EvP.no (by omega) (EvP.ret ?_))
    rw [List.drop_eq_nil_of_le (by omega)]
    rfl
  | succ r ih =>
    intro j hj
    have hlt : j < l.length := by omega
    refine EvP.step (fun k => spec_l11Blocks.l0.eq_2 (k := k) ..) (EvP.yes (by omega) (EvP.yes (by omega) ?_))
    rw [rdS_nat l j hlt, w64 (n := (j : Int) + 1) (by omega) (by omega)]
    have hall : okL 3 d (l.drop j) = (okOne 3 d l[j] && okL 3 d (l.drop (j + 1))) := by
      rw [List.drop_eq_getElem_cons hlt]
      rfl
    rw [hall]
    refine EvP.bindEq (sub _ (List.getElem_mem hlt)) (EvP.ite (fun h => ?_) (fun h => EvP.ret ?_))
    · rw [h, Bool.true_and]
      exact ih (j + 1) (by omega)
    · rw [Bool.eq_false_iff.mpr h]
      rfl
theorem spec_l11Blocks_of (l : List S36) (hl : l.length ≤ 1000000000) (x1 : Int) (d : Nat) (sub : ∀ x ∈ l, EvP (fun k => spec_l11Ok.f k x.f0 x.f1 x.f2 x.f3.f0 x.f3.f1 x.f3.f2 x.f4 x.f5 x1) (· = okOne 3 d x)) :
    EvP (fun k => spec_l11Blocks.f k l x1) (· = okL 3 d l) :=
  EvP.step (fun k => spec_l11Blocks.f.eq_2 (k := k) ..) (spec_l11Blocks_l0 l hl x1 d sub l.length 0 (by omega))
theorem spec_l11Ok_ev : ∀ (d : Nat) (x1 : Int) (x : S36), d ≤ 3 → x1 = d → cS x ≤ 1000000000 → EvP (fun k => spec_l11Ok.f k x.f0 x.f1 x.f2 x.f3.f0 x.f3.f1 x.f3.f2 x.f4 x.f5 x1) (· = okOne 3 d x) := by
  intro d
  induction d with
  | zero =>
    intro x1 x hd h1 hc
    have j1 : EvP (fun k => spec_l11Ok.j1 k x1 true x.f0 x.f1 x.f2 x.f3.f0 x.f3.f1 x.f3.f2 x.f4 x.f5) (· = false) :=
      EvP.step (fun k => spec_l11Ok.j1.eq_2 (k := k) ..) (EvP.yes rfl (EvP.ret rfl))
    refine EvP.step (fun k => spec_l11Ok.f.eq_2 (k := k) ..) (EvP.ite (fun h2 => ?_) (fun h2 => ?_))
    · have : okOne 3 0 x = false := by simp [okOne, isBlk, h2]
      rw [this]
      refine EvP.step (fun k => spec_l11Ok.j0.eq_2 (k := k) ..) (EvP.no Bool.false_ne_true (EvP.yes (by omega) j1))
    · refine EvP.step (fun k => spec_l11Ok.j0.eq_2 (k := k) ..) (EvP.ite (fun h3 => ?_) (fun h3 => EvP.yes (by omega) ?_))
      · have h3 : x.f0 ≠ 3 := bne_iff_ne.mp h3
        refine EvP.bindEq (spec_l11Simple_ev _ _ _ _ _ _ _ _ h2 h3) (EvP.ret ?_)
        simp [okOne, isBlk, h2, h3, stS]
      · have h3 : x.f0 = 3 := by simpa using h3
        have : okOne 3 0 x = false := by simp [okOne, isBlk, h3]
        rw [this]
        exact j1
  | succ d ih =>
    intro x1 x hd h1 hc
    have hcs := cS_f x
    have e1 : wrap64 (x1 - 1) = (d : Int) := by
      rw [w64 (by omega) (by omega)]
      omega
    have len4 := cSs_length x.f4
    have len5 := cSs_length x.f5
    have sub : ∀ m : List S36, cSs m ≤ 1000000000 → EvP (fun k => spec_l11Blocks.f k m (wrap64 (x1 - 1))) (· = okL 3 d m) := by
      intro m hm
      have := cSs_length m
      refine spec_l11Blocks_of m (by omega) _ d (fun y hy => ih _ y (by omega) e1 ?_)
      have := cSs_mem m y hy
      omega
    have j1 : ∀ b : Bool, isBlk x = true → (b = (x.f0 == 3 && decide ((x.f5.length : Int) > 0))) → EvP (fun k => spec_l11Ok.j1 k x1 b x.f0 x.f1 x.f2 x.f3.f0 x.f3.f1 x.f3.f2 x.f4 x.f5) (· = okOne 3 (d + 1) x) := by
      intro b hb hbb
      have ho : okOne 3 (d + 1) x = (stS 3 x && (okL 3 d x.f4 && okL 3 d x.f5)) := by
        simp only [okOne, hb, okL]
        rfl
      rw [ho]
      refine EvP.step (fun k => spec_l11Ok.j1.eq_2 (k := k) ..) (EvP.ite (fun h => EvP.ret ?_) (fun h => ?_))
      · rw [h] at hbb
        have h4 := hbb.symm
        simp only [Bool.and_eq_true, beq_iff_eq, decide_eq_true_eq] at h4
        have : stS 3 x = false := by
          have hne : (x.f5.length == 0) = false := beq_eq_false_iff_ne.mpr (by omega)
          simp [stS, stOk, h4.1, restOk, hne]
        rw [this]
        rfl
      · have hst : stS 3 x = (varOk false x.f1 && (boxOk 3 false x.f2 && vx 5 x.f3.f0 x.f3.f1 x.f3.f2)) := by
          rcases (isBlk_iff x).mp hb with h2 | h2
          · simp [stS, stOk, h2, restOk]
          · have h5 : x.f5.length = 0 := by
              rw [Bool.eq_false_iff.mpr h, h2] at hbb
              have := hbb.symm
              simp only [beq_self_eq_true, Bool.true_and, decide_eq_false_iff_not] at this
              omega
            simp [stS, stOk, h2, restOk, h5]
        rw [hst]
        refine EvP.bind0 (spec_l11Var_eq ..) (EvP.ite (fun hv => EvP.bind0 (spec_l11Box_eq ..) (EvP.ite (fun hx => EvP.bindEq (spec_ExprValid_ev ..) (EvP.ite (fun he => ?_) (fun he => EvP.ret ?_))) (fun hx => EvP.ret ?_))) (fun hv => EvP.ret ?_))
        · refine EvP.bindEq (sub x.f4 (by omega)) (EvP.ite (fun h4 => EvP.bindEq (sub x.f5 (by omega)) (EvP.ret ?_)) (fun h4 => EvP.ret ?_)) <;> simp [*]
        all_goals simp [*]
    refine EvP.step (fun k => spec_l11Ok.f.eq_2 (k := k) ..) (EvP.ite (fun h2 => ?_) (fun h2 => ?_))
    · refine EvP.step (fun k => spec_l11Ok.j0.eq_2 (k := k) ..) (EvP.no Bool.false_ne_true (EvP.no (by omega) (EvP.no (by omega) (j1 false ?_ ?_))))
      · simp [isBlk, h2]
      · simp [h2]
    · refine EvP.step (fun k => spec_l11Ok.j0.eq_2 (k := k) ..) (EvP.ite (fun h3 => ?_) (fun h3 => EvP.no (by omega) ?_))
      · have h3 : x.f0 ≠ 3 := bne_iff_ne.mp h3
        refine EvP.bindEq (spec_l11Simple_ev _ _ _ _ _ _ _ _ h2 h3) (EvP.ret ?_)
        simp [okOne, isBlk, h2, h3, stS]
      · have h3 : x.f0 = 3 := by simpa using h3
        refine EvP.yes h3 (j1 _ ?_ ?_)
        · simp [isBlk, h3]
        · simp [h3]
theorem spec_l11Blocks_ev (l : List S36) (hl : cSs l ≤ 1000000000) : EvP (fun k => spec_l11Blocks.f k l 3) (· = okL 3 3 l) := by
  have := cSs_length l
  refine spec_l11Blocks_of l (by omega) _ 3 (fun y hy => spec_l11Ok_ev 3 3 y (by omega) (by omega) ?_)
  have := cSs_mem l y hy
  omega
theorem spec_l11Count_ev : ∀ (c : Nat) (l : List S36), cSs l ≤ c → c ≤ 1000000000 → EvP (fun k => spec_l11Count.f k l) (· = (cSs l : Int)) := by
  intro c
  induction c with
  | zero =>
    intro l hl hc
    have := cSs_length l
    refine EvP.step (fun k => spec_l11Count.f.eq_2 (k := k) ..) (EvP.step (fun k => spec_l11Count.l0.eq_2 (k := k) ..) (EvP.no (by omega) (EvP.ret ?_)))
    omega
  | succ c ih =>
    intro l hl hc
    have hlen := cSs_length l
    have loop : ∀ (r j : Nat) (a : Int), j + r = l.length → 0 ≤ a → a + cSs (l.drop j) ≤ 1000000000 → EvP (fun k => spec_l11Count.l0 k l a (j : Int)) (· = a + cSs (l.drop j)) := by
      intro r
      induction r with
      | zero =>
        intro j a hj h0 h1
        refine EvP.step (fun k => spec_l11Count.l0.eq_2 (k := k) ..) (EvP.no (by omega) (EvP.ret ?_))
        rw [List.drop_eq_nil_of_le (by omega), cSs_nil]
        omega
      | succ r ih2 =>
        intro j a hj h0 h1
        have hlt : j < l.length := by omega
        have hd := cSs_drop l j hlt
        have hm := cSs_mem l _ (List.getElem_mem hlt)
        have hcs := cS_f l[j]
        refine EvP.step (fun k => spec_l11Count.l0.eq_2 (k := k) ..) (EvP.yes (by omega) (EvP.yes (by omega) ?_))
        rw [rdS_nat l j hlt, w64 (n := (j : Int) + 1) (by omega) (by omega)]
        refine EvP.bindEq (ih _ (by omega) (by omega)) (EvP.bindEq (ih _ (by omega) (by omega)) ?_)
        rw [w64 (n := a + 1) (by omega) (by omega), w64 (n := a + 1 + (cSs l[j].f4 : Int)) (by omega) (by omega), w64 (by omega) (by omega)]
        refine (ih2 (j + 1) _ (by omega) (by omega) (by omega)).mono fun b hb => ?_
        omega
    refine EvP.step (fun k => spec_l11Count.f.eq_2 (k := k) ..) ((loop l.length 0 0 (by omega) (by omega) (by rw [List.drop_zero]; omega)).mono fun b hb => ?_)
    rw [List.drop_zero] at hb
    omega
theorem spec_StmtsValid_ev (l : List S36) (hl : cSs l ≤ 1000000000) : EvP (fun k => spec_StmtsValid.f k l) (· = okT 3 l) := by
  unfold spec_StmtsValid.f okT
  refine EvP.bindEq (spec_l11Blocks_ev l hl) (EvP.ite (fun h => EvP.bindEq (spec_l11Count_ev _ l hl (by omega)) (EvP.ret ?_)) (fun h => EvP.ret ?_))
  · rw [h, Bool.true_and]
    exact decide_eq_decide.mpr (by omega)
  · rw [Bool.eq_false_iff.mpr h]
    rfl
theorem impl_stmtsCount_ev : ∀ (c : Nat) (l : List S36), cSs l ≤ c → c ≤ 1000000000 → EvP (fun k => impl_stmtsCount.f k l) (· = (cSs l : Int)) := by
  intro c
  induction c with
  | zero =>
    intro l hl hc
    have := cSs_length l
    refine EvP.step (fun k => impl_stmtsCount.f.eq_2 (k := k) ..) (EvP.step (fun k => impl_stmtsCount.l0.eq_2 (k := k) ..) (EvP.no (by omega) (EvP.ret ?_)))
    omega
  | succ c ih =>
    intro l hl hc
    have hlen := cSs_length l
    have loop : ∀ (r j : Nat) (a : Int), j + r = l.length → 0 ≤ a → a + cSs (l.drop j) ≤ 2000000000 → EvP (fun k => impl_stmtsCount.l0 k a l (l.length : Int) (j : Int)) (· = a + cSs (l.drop j) - r) := by
      intro r
      induction r with
      | zero =>
        intro j a hj h0 h1
        refine EvP.step (fun k => impl_stmtsCount.l0.eq_2 (k := k) ..) (EvP.no (by omega) (EvP.ret ?_))
        rw [List.drop_eq_nil_of_le (by omega), cSs_nil]
        omega
      | succ r ih2 =>
        intro j a hj h0 h1
        have hlt : j < l.length := by omega
        have hd := cSs_drop l j hlt
        have hm := cSs_mem l _ (List.getElem_mem hlt)
        have hcs := cS_f l[j]
        refine EvP.step (fun k => impl_stmtsCount.l0.eq_2 (k := k) ..) (EvP.yes (by omega) (EvP.yes (by omega) (EvP.yes (by omega) ?_)))
        rw [rdS_nat l j hlt, w64 (n := (j : Int) + 1) (by omega) (by omega)]
        refine EvP.bindEq (ih _ (by omega) (by omega)) (EvP.bindEq (ih _ (by omega) (by omega)) ?_)
        rw [w64 (n := (cSs l[j].f4 : Int) + cSs l[j].f5) (by omega) (by omega), w64 (by omega) (by omega)]
        refine (ih2 (j + 1) _ (by omega) (by omega) (by omega)).mono fun b hb => ?_
        omega
    refine EvP.step (fun k => impl_stmtsCount.f.eq_2 (k := k) ..) ((loop l.length 0 l.length (by omega) (by omega) (by rw [List.drop_zero]; omega)).mono fun b hb => ?_)
    rw [List.drop_zero] at hb
    omega
def ctT (l : List S36) : Int := if okT 3 l = true then (cSs l : Int) else -1
theorem impl_StmtsCount_ev (l : List S36) (hl : cSs l ≤ 1000000000) : EvP (fun k => impl_StmtsCount.f k l) (· = ctT l) := by
  unfold impl_StmtsCount.f ctT
  exact EvP.bindEq (impl_StmtsValid_ev l hl) (EvP.ite (fun h => by rw [if_pos h]; exact EvP.bindEq (impl_stmtsCount_ev _ l hl (by omega)) (EvP.ret rfl)) (fun h => by rw [if_neg h]; exact EvP.ret rfl))
theorem spec_StmtsCount_ev (l : List S36) (hl : cSs l ≤ 1000000000) : EvP (fun k => spec_StmtsCount.f k l) (· = ctT l) := by
  unfold spec_StmtsCount.f ctT
  exact EvP.bindEq (spec_StmtsValid_ev l hl) (EvP.ite (fun h => by rw [if_pos h]; exact EvP.bindEq (spec_l11Count_ev _ l hl (by omega)) (EvP.ret rfl)) (fun h => by rw [if_neg h]; exact EvP.ret rfl))
theorem okL_append (boxes : Int) (d : Nat) (l m : List S36) : okL boxes d (l ++ m) = (okL boxes d l && okL boxes d m) := List.all_append
theorem okL_take_drop {boxes : Int} {d : Nat} {l : List S36} (n : Nat) (h : okL boxes d l = true) : okL boxes d (l.take n) = true ∧ okL boxes d (l.drop n) = true := by
  rw [← List.take_append_drop n l, okL_append, Bool.and_eq_true] at h
  exact h
theorem okT_iff {boxes : Int} {l : List S36} : okT boxes l = true ↔ okL boxes 3 l = true ∧ cSs l ≤ 16 := by
  unfold okT
  rw [Bool.and_eq_true, decide_eq_true_eq]
theorem okT_take {boxes : Int} {l : List S36} (n : Nat) (h : okT boxes l = true) : okT boxes (l.take n) = true := by
  have := cSs_take_drop l n
  rw [okT_iff] at h ⊢
  exact ⟨(okL_take_drop n h.1).1, by omega⟩
theorem okT_drop {boxes : Int} {l : List S36} (n : Nat) (h : okT boxes l = true) : okT boxes (l.drop n) = true := by
  have := cSs_take_drop l n
  rw [okT_iff] at h ⊢
  exact ⟨(okL_take_drop n h.1).2, by omega⟩
theorem okOne_more (boxes : Int) : ∀ (d : Nat) (s : S36), okOne boxes d s = true → okOne boxes (d + 1) s = true
  | 0, s, h => by
    simp only [okOne, Bool.and_eq_true] at h ⊢
    exact ⟨h.1, by rw [h.2]; rfl⟩
  | d + 1, s, h => by
    simp only [okOne, Bool.and_eq_true, Bool.or_eq_true] at h ⊢
    refine ⟨h.1, ?_⟩
    rcases h.2 with h2 | ⟨h2, h3⟩
    · exact .inl h2
    · right
      constructor
      · rw [List.all_eq_true] at h2 ⊢
        intro x hx
        have := okOne_more boxes d x (h2 x hx)
        simp only [okOne, Bool.and_eq_true, Bool.or_eq_true] at this
        exact Bool.and_eq_true_iff.mpr ⟨this.1, Bool.or_eq_true_iff.mpr (this.2.imp id fun h => Bool.and_eq_true_iff.mpr h)⟩
      · rw [List.all_eq_true] at h3 ⊢
        intro x hx
        have := okOne_more boxes d x (h3 x hx)
        simp only [okOne, Bool.and_eq_true, Bool.or_eq_true] at this
        exact Bool.and_eq_true_iff.mpr ⟨this.1, Bool.or_eq_true_iff.mpr (this.2.imp id fun h => Bool.and_eq_true_iff.mpr h)⟩
theorem okL_more {boxes : Int} {d : Nat} {l : List S36} (h : okL boxes d l = true) : okL boxes (d + 1) l = true := by
  unfold okL at h ⊢
  rw [List.all_eq_true] at h ⊢
  exact fun x hx => okOne_more boxes d x (h x hx)
theorem okOne_blocks {boxes : Int} {d : Nat} {s : S36} (h : okOne boxes (d + 1) s = true) : okL boxes (d + 1) s.f4 = true ∧ okL boxes (d + 1) s.f5 = true := by
  by_cases hb : isBlk s = true
  · have h' : (stS boxes s && (!isBlk s || (okL boxes d s.f4 && okL boxes d s.f5))) = true := h
    rw [hb] at h'
    simp only [Bool.and_eq_true, Bool.not_true, Bool.false_or] at h'
    exact ⟨okL_more h'.2.1, okL_more h'.2.2⟩
  · have hs := okOne_st h
    have hc := flat_cS hs (fun e => hb ((isBlk_iff s).mpr e))
    rw [cS_f] at hc
    have h4 := cSs_length s.f4
    have h5 := cSs_length s.f5
    rw [List.eq_nil_of_length_eq_zero (show s.f4.length = 0 by omega), List.eq_nil_of_length_eq_zero (show s.f5.length = 0 by omega)]
    exact ⟨rfl, rfl⟩
theorem okT_blocks {boxes : Int} {l : List S36} (h : okT boxes l = true) (x : S36) (hx : x ∈ l) : okT boxes x.f4 = true ∧ okT boxes x.f5 = true := by
  rw [okT_iff] at h
  have ho : okOne boxes 3 x = true := by
    have h1 := h.1
    unfold okL at h1
    rw [List.all_eq_true] at h1
    exact h1 x hx
  have hb := okOne_blocks ho
  have hm := cSs_mem l x hx
  have hc := cS_f x
  exact ⟨okT_iff.mpr ⟨hb.1, by omega⟩, okT_iff.mpr ⟨hb.2, by omega⟩⟩
theorem okT_append {boxes : Int} {l m : List S36} : okT boxes (l ++ m) = (okL boxes 3 l && okL boxes 3 m && decide (cSs l + cSs m ≤ 16)) := by
  unfold okT
  rw [okL_append, cSs_append]
end Go.Proofs.Ytpifdlpieglhlaa.PA

/- What is drawn: statements; how many, and how far the reading goes. -/
namespace Go.Proofs.Ytpifdlpieglhlaa.PA
open Go.RowKit Go.Proofs.YtpifdlpieglhlaaW.PrintWords Go.Proofs.Ytpifdlpieglhlaa.Core
def cB : Nat → Nat
  | 0 => 1
  | d + 1 => 4 * cB d + 3
def pB : Nat → Nat
  | 0 => 5000
  | d + 1 => 4 * pB d + 5000
theorem cB_le {d : Nat} (h : d ≤ 3) : 1 ≤ cB d ∧ cB d ≤ 127 := by
  match d, h with
  | 0, _ => decide
  | 1, _ => decide
  | 2, _ => decide
  | 3, _ => decide
theorem pB_le {d : Nat} (h : d ≤ 3) : 5000 ≤ pB d ∧ pB d ≤ 425000 := by
  match d, h with
  | 0, _ => decide
  | 1, _ => decide
  | 2, _ => decide
  | 3, _ => decide
/-- One statement was drawn: how far the reading is, how many are in its blocks. -/
def DS (p : Int) (P C : Nat) (r : Int × Int × Int × Int × Int × (List (S34)) × (List (S36)) × (List (S36)) × Int) : Prop :=
  p ≤ r.2.2.2.2.2.2.2.2 ∧ r.2.2.2.2.2.2.2.2 ≤ p + P ∧ cSs r.2.2.2.2.2.2.1 + cSs r.2.2.2.2.2.2.2.1 ≤ C
/-- A list was drawn. -/
def DL (p : Int) (P C : Nat) (r : List (S36) × Int) : Prop := p ≤ r.2 ∧ r.2 ≤ p + P ∧ cSs r.1 ≤ C
theorem l92Set_ev (b : List Int) (hb : Bytes b) (p : Int) (h0 : 0 ≤ p) (h1 : p ≤ 600000000000) : EvP (fun k => spec_l92Set.f k b p) (DS p 4100 0) := by
  unfold spec_l92Set.f
  refine pick_then hb h0 (by omega) fun v v0 v1 _ => ?_
  refine pick_then hb (by dsimp only; omega) (by dsimp only; omega) fun u u0 u1 _ => ?_
  have := u1 (by omega)
  dsimp only
  rw [w64 (by omega) (by omega)]
  refine EvP.bind (l91Expr_ev' b hb _ _ (by omega) (by omega) (by omega) (by omega)) fun r hr => EvP.ret ?_
  unfold DS
  simp only [cSs_nil]
  omega
theorem l92Talk_ev (b : List Int) (hb : Bytes b) (p a1 : Int) (h0 : 0 ≤ p) (h1 : p ≤ 500000000000) : EvP (fun k => spec_l92Talk.f k b p a1) (DS p 4200 0) := by
  unfold spec_l92Talk.f
  refine EvP.ite (fun h => ?_) (fun h => ?_)
  · refine EvP.bind (l92Set_ev b hb p h0 (by omega)) fun r hr => EvP.ret ?_
    unfold DS at hr ⊢
    dsimp only
    omega
  · refine pick_then hb h0 (by omega) fun v v0 v1 _ => ?_
    refine pick_then hb (by dsimp only; omega) (by dsimp only; omega) fun u u0 u1 _ => ?_
    dsimp only
    refine EvP.ite (fun h => ?_) (fun h => ?_)
    · refine pick_then hb (by omega) (by omega) fun w w0 w1 _ => ?_
      have := w1 (by omega)
      dsimp only
      rw [w64 (by omega) (by omega)]
      refine EvP.bind (l91Expr_ev' b hb _ _ (by omega) (by omega) (by omega) (by omega)) fun r hr => EvP.ret ?_
      unfold DS
      simp only [cSs_nil]
      omega
    · refine pick_then hb (by omega) (by omega) fun w w0 w1 _ => EvP.ret ?_
      unfold DS
      simp only [cSs_nil]
      omega
theorem l92Block_l0 (b : List Int) (x1 x2 : Int) (x4 : Bool) (P C : Nat) (M : Int)
    (stmt : ∀ p, 0 ≤ p → p ≤ M → EvP (fun k => spec_l92Stmt.f k b p x1 x2 x4) (DL p P C)) (n : Int) :
    ∀ (r j : Nat) (l : List (S36)) (p : Int), (j : Int) + r = n → j + r ≤ 100 → cSs l + r * C ≤ 1000000 → 0 ≤ p → p + ((r * P : Nat) : Int) ≤ M →
      EvP (fun k => spec_l92Block.l0 k x1 x2 n x4 l (j : Int) b p) (DL p (r * P) (cSs l + r * C)) := by
  intro r
  induction r with
  | zero =>
    intro j l p hj hr hl h0 h1
    refine EvP.step (fun k => spec_l92Block.l0.eq_2 (k := k) ..) (EvP.no (by omega) (EvP.ret ?_))
    unfold DL
    dsimp only
    omega
  | succ r ih =>
    intro j l p hj hr hl h0 h1
    have e1 : (r + 1) * P = r * P + P := Nat.succ_mul r P
    have e2 : (r + 1) * C = r * C + C := Nat.succ_mul r C
    rw [e1] at h1 ⊢
    rw [e2] at hl ⊢
    refine EvP.step (fun k => spec_l92Block.l0.eq_2 (k := k) ..) (EvP.yes (by omega) ?_)
    refine EvP.bind (stmt p h0 (by omega)) fun s hs => ?_
    obtain ⟨s0, s1, s2⟩ := hs
    have l1 := cSs_length l
    have l2 := cSs_length s.1
    have ha := cSs_append l s.1
    refine EvP.yes (by omega) ?_
    rw [w64 (by omega) (by omega)]
    refine (ih (j + 1) (l ++ s.1) s.2 (by omega) (by omega) (by omega) (by omega) (by omega)).mono fun a ha => ?_
    unfold DL at ha ⊢
    omega
theorem l92Block_of (b : List Int) (x1 x2 : Int) (x4 : Bool) (P C : Nat) (M : Int)
    (stmt : ∀ p, 0 ≤ p → p ≤ M → EvP (fun k => spec_l92Stmt.f k b p x1 x2 x4) (DL p P C)) (n : Int) (m : Nat) (hn0 : 0 ≤ n) (hn : n ≤ m) (hm : m ≤ 100) (hC : m * C ≤ 1000000) (p : Int) (h0 : 0 ≤ p) (h1 : p + ((m * P : Nat) : Int) ≤ M) :
    EvP (fun k => spec_l92Block.f k b p x1 x2 n x4) (DL p (m * P) (m * C)) := by
  have hnm : n.toNat ≤ m := by omega
  have e1 : n.toNat * P ≤ m * P := Nat.mul_le_mul_right P hnm
  have e2 : n.toNat * C ≤ m * C := Nat.mul_le_mul_right C hnm
  refine EvP.step (fun k => spec_l92Block.f.eq_2 (k := k) ..) ?_
  refine (l92Block_l0 b x1 x2 x4 P C M stmt n n.toNat 0 [] p (by omega) (by omega) (by rw [cSs_nil]; omega) h0 (by omega)).mono fun a ha => ?_
  unfold DL at ha ⊢
  rw [cSs_nil] at ha
  omega
theorem l92If_of (b : List Int) (hb : Bytes b) (x1 a2 : Int) (x4 : Bool) (P C : Nat) (hP : P ≤ 1000000) (hC : C ≤ 1000) (M : Int) (hM : M ≤ 300000000000)
    (stmt : ∀ p, 0 ≤ p → p ≤ M → EvP (fun k => spec_l92Stmt.f k b p x1 (wrap64 (a2 - 1)) x4) (DL p P C)) (p : Int) (h0 : 0 ≤ p) (h1 : p + 10000000 ≤ M) :
    EvP (fun k => spec_l92If.f k b p x1 a2 x4) (DS p (4 * P + 4200) (4 * C)) := by
  refine EvP.step (fun k => spec_l92If.f.eq_2 (k := k) ..) ?_
  refine pick_then hb h0 (by omega) fun v v0 v1 _ => ?_
  have := v1 (by omega)
  dsimp only
  rw [w64 (n := 1 + v) (by omega) (by omega)]
  refine EvP.bind (l91Expr_ev' b hb _ _ (by omega) (by omega) (by omega) (by omega)) fun r hr => ?_
  refine pick_then hb (by omega) (by omega) fun u u0 u1 _ => ?_
  have := u1 (by omega)
  refine EvP.bind (l92Block_of b x1 _ x4 P C M stmt u 2 u0 (by omega) (by omega) (by omega) _ (by dsimp only; omega) (by dsimp only; omega)) fun s hs => ?_
  obtain ⟨s0, s1, s2⟩ := hs
  dsimp only at s0 s1
  refine pick_then hb (by omega) (by omega) fun w w0 w1 _ => ?_
  have := w1 (by omega)
  refine EvP.bind (l92Block_of b x1 _ x4 P C M stmt w 2 w0 (by omega) (by omega) (by omega) _ (by dsimp only; omega) (by dsimp only; omega)) fun t ht => EvP.ret ?_
  obtain ⟨t0, t1, t2⟩ := ht
  dsimp only at t0 t1
  unfold DS
  dsimp only
  omega
theorem l92Loop_of (b : List Int) (hb : Bytes b) (x1 a2 : Int) (P C : Nat) (hP : P ≤ 1000000) (hC : C ≤ 1000) (M : Int) (hM : M ≤ 300000000000)
    (stmt : ∀ p, 0 ≤ p → p ≤ M → EvP (fun k => spec_l92Stmt.f k b p x1 (wrap64 (a2 - 1)) false) (DL p P C)) (p : Int) (h0 : 0 ≤ p) (h1 : p + 10000000 ≤ M) :
    EvP (fun k => spec_l92Loop.f k b p x1 a2) (DL p (2 * P + 10) (2 * C + 3)) := by
  refine EvP.step (fun k => spec_l92Loop.f.eq_2 (k := k) ..) ?_
  refine pick_then hb h0 (by omega) fun v v0 v1 _ => ?_
  have := v1 (by omega)
  refine EvP.bind (l92Block_of b x1 _ false P C M stmt v 2 v0 (by omega) (by omega) (by omega) _ (by dsimp only; omega) (by dsimp only; omega)) fun s hs => ?_
  obtain ⟨s0, s1, s2⟩ := hs
  dsimp only at s0 s1
  refine EvP.bind0 rfl (EvP.bind0 rfl (EvP.bind0 rfl (EvP.bind0 rfl ?_)))
  refine pick_then hb (by omega) (by omega) fun u u0 u1 _ => ?_
  refine EvP.bind0 rfl (EvP.bind0 rfl (EvP.bind0 rfl ?_))
  have l1 := cSs_length s.1
  refine EvP.yes (by simp; omega) (EvP.bind0 rfl (EvP.ret ?_))
  unfold DL
  simp only [cSs, cS, cSs_append]
  omega
theorem l92Stmt_j2 (b : List Int) (hb : Bytes b) (x1 x10 : Int) (x : Bool) (p : Int) (h0 : 0 ≤ p) (h1 : p ≤ 300000000000) :
    EvP (fun k => spec_l92Stmt.j2 k x1 x10 x b p) (DL p 4300 1) := by
  refine EvP.step (fun k => spec_l92Stmt.j2.eq_2 (k := k) ..) (EvP.ite (fun h => ?_) (fun h => EvP.ite (fun h => EvP.ret ?_) (fun h => ?_)))
  · refine EvP.bind (l92Talk_ev b hb p x1 h0 (by omega)) fun r hr => EvP.ret ?_
    unfold DS at hr
    unfold DL
    simp only [cSs, cS]
    omega
  · unfold DL
    simp only [cSs, cS]
    omega
  · refine pick_then hb h0 (by omega) fun u u0 u1 _ => ?_
    have := u1 (by omega)
    dsimp only
    rw [w64 (by omega) (by omega)]
    refine EvP.bind (l91Expr_ev' b hb _ _ (by omega) (by omega) (by omega) (by omega)) fun r hr => EvP.ret ?_
    unfold DL
    simp only [cSs, cS]
    omega
theorem l92Stmt_ev (b : List Int) (hb : Bytes b) : ∀ (d : Nat) (a2 : Int) (x1 : Int) (x3 : Bool) (p : Int), d ≤ 3 → a2 = d → 0 ≤ p → p + (d : Int) * 20000000 ≤ 200000000000 → EvP (fun k => spec_l92Stmt.f k b p x1 a2 x3) (DL p (pB d) (cB d)) := by
  intro d
  induction d with
  | zero =>
    intro a2 x1 x3 p hd ha h0 h1
    have j2 : ∀ (q x10 : Int) (x : Bool), p ≤ q → q ≤ p + 1 → EvP (fun k => spec_l92Stmt.j2 k x1 x10 x b q) (DL p (pB 0) (cB 0)) := fun q x10 x hq hq2 => (l92Stmt_j2 b hb x1 x10 x q (by omega) (by omega)).mono fun r hr => by
      unfold DL at hr ⊢
      simp only [pB, cB]
      omega
    have pr : ∀ q : Int, p ≤ q → q ≤ p + 1 → EvP (fun k => (spec_l6Rd_pick.f k b q 3).bind fun bt442 => ((spec_l91Expr.f k b bt442.2 (wrap64 (1 + bt442.1))).bind fun bt444 => (some ((([(⟨7, 0, 0, (⟨bt444.1, bt444.2.1, bt444.2.2.1⟩ : S34), ([] : List (S36)), ([] : List (S36))⟩ : S36)] : List (S36))), bt444.2.2.2)))) (DL p (pB 0) (cB 0)) := by
      intro q hq hq2
      refine pick_then hb (by omega) (by omega) fun u u0 u1 _ => ?_
      have := u1 (by omega)
      dsimp only
      rw [w64 (by omega) (by omega)]
      refine EvP.bind (l91Expr_ev' b hb _ _ (by omega) (by omega) (by omega) (by omega)) fun r hr => EvP.ret ?_
      unfold DL
      simp only [cSs, cS, pB, cB]
      omega
    have j1 : ∀ q : Int, p ≤ q → q ≤ p + 1 → EvP (fun k => spec_l92Stmt.j1 k x1 a2 false b q) (DL p (pB 0) (cB 0)) := fun q hq hq2 =>
      EvP.step (fun k => spec_l92Stmt.j1.eq_2 (k := k) ..) (EvP.no Bool.false_ne_true (pr q hq hq2))
    have j0 : ∀ (q x10 : Int) (x : Bool), p ≤ q → q ≤ p + 1 → EvP (fun k => spec_l92Stmt.j0 k x1 a2 x3 x10 x b q) (DL p (pB 0) (cB 0)) := by
      intro q x10 x hq hq2
      refine EvP.step (fun k => spec_l92Stmt.j0.eq_2 (k := k) ..) (EvP.ite (fun h => ?_) (fun h => EvP.ite (fun h => EvP.no (by omega) (pr q hq hq2)) (fun h => EvP.ite (fun h => EvP.no (by omega) (j1 q hq hq2)) (fun h => EvP.ite (fun h => j2 q _ _ hq hq2) (fun h => EvP.ite (fun h => j2 q _ _ hq hq2) (fun h => j2 q _ _ hq hq2))))))
      refine EvP.bind (l92Set_ev b hb q (by omega) (by omega)) fun r hr => EvP.ret ?_
      unfold DS at hr
      unfold DL
      simp only [cSs, cS, pB, cB]
      omega
    refine EvP.step (fun k => spec_l92Stmt.f.eq_2 (k := k) ..) (pick_then hb h0 (by omega) fun u u0 u1 _ => ?_)
    dsimp only
    exact EvP.ite (fun h => j0 _ _ _ (by omega) (by omega)) (fun h => j0 _ _ _ (by omega) (by omega))
  | succ d ih =>
    intro a2 x1 x3 p hd ha h0 h1
    have hc := cB_le (show d ≤ 3 by omega)
    have hp := pB_le (show d ≤ 3 by omega)
    have ec : cB (d + 1) = 4 * cB d + 3 := rfl
    have ep : pB (d + 1) = 4 * pB d + 5000 := rfl
    have ew : wrap64 (a2 - 1) = (d : Int) := by
      rw [w64 (by omega) (by omega)]
      omega
    have stmt : ∀ (x4 : Bool) (p : Int), 0 ≤ p → p ≤ 200000000000 - (d : Int) * 20000000 → EvP (fun k => spec_l92Stmt.f k b p x1 (wrap64 (a2 - 1)) x4) (DL p (pB d) (cB d)) := fun x4 p h0 h1 => ih _ x1 x4 p (by omega) ew h0 (by omega)
    have j2 : ∀ (q x10 : Int) (x : Bool), p ≤ q → q ≤ p + 1 → EvP (fun k => spec_l92Stmt.j2 k x1 x10 x b q) (DL p (pB (d + 1)) (cB (d + 1))) := fun q x10 x hq hq2 => (l92Stmt_j2 b hb x1 x10 x q (by omega) (by omega)).mono fun r hr => by
      unfold DL at hr ⊢
      omega
    have pr : ∀ q : Int, p ≤ q → q ≤ p + 1 → EvP (fun k => (spec_l6Rd_pick.f k b q 3).bind fun bt442 => ((spec_l91Expr.f k b bt442.2 (wrap64 (1 + bt442.1))).bind fun bt444 => (some ((([(⟨7, 0, 0, (⟨bt444.1, bt444.2.1, bt444.2.2.1⟩ : S34), ([] : List (S36)), ([] : List (S36))⟩ : S36)] : List (S36))), bt444.2.2.2)))) (DL p (pB (d + 1)) (cB (d + 1))) := by
      intro q hq hq2
      refine pick_then hb (by omega) (by omega) fun u u0 u1 _ => ?_
      have := u1 (by omega)
      dsimp only
      rw [w64 (by omega) (by omega)]
      refine EvP.bind (l91Expr_ev' b hb _ _ (by omega) (by omega) (by omega) (by omega)) fun r hr => EvP.ret ?_
      unfold DL
      simp only [cSs, cS]
      omega
    have j1 : ∀ (q : Int) (x : Bool), p ≤ q → q ≤ p + 1 → EvP (fun k => spec_l92Stmt.j1 k x1 a2 x b q) (DL p (pB (d + 1)) (cB (d + 1))) := by
      intro q x hq hq2
      refine EvP.step (fun k => spec_l92Stmt.j1.eq_2 (k := k) ..) (EvP.ite (fun h => ?_) (fun h => pr q hq hq2))
      refine EvP.bind (l92Loop_of b hb x1 a2 (pB d) (cB d) (by omega) (by omega) (200000000000 - (d : Int) * 20000000) (by omega) (stmt false) q (by omega) (by omega)) fun r hr => EvP.ret ?_
      unfold DL at hr ⊢
      dsimp only
      omega
    have j0 : ∀ (q x10 : Int) (x : Bool), p ≤ q → q ≤ p + 1 → EvP (fun k => spec_l92Stmt.j0 k x1 a2 x3 x10 x b q) (DL p (pB (d + 1)) (cB (d + 1))) := by
      intro q x10 x hq hq2
      refine EvP.step (fun k => spec_l92Stmt.j0.eq_2 (k := k) ..) (EvP.ite (fun h => ?_) (fun h => EvP.ite (fun h => EvP.ite (fun h => ?_) (fun h => pr q hq hq2)) (fun h => EvP.ite (fun h => EvP.ite (fun h => j1 q _ hq hq2) (fun h => j1 q _ hq hq2)) (fun h => EvP.ite (fun h => j2 q _ _ hq hq2) (fun h => EvP.ite (fun h => j2 q _ _ hq hq2) (fun h => j2 q _ _ hq hq2))))))
      · refine EvP.bind (l92Set_ev b hb q (by omega) (by omega)) fun r hr => EvP.ret ?_
        unfold DS at hr
        unfold DL
        simp only [cSs, cS]
        omega
      · refine EvP.bind (l92If_of b hb x1 a2 x3 (pB d) (cB d) (by omega) (by omega) (200000000000 - (d : Int) * 20000000) (by omega) (stmt x3) q (by omega) (by omega)) fun r hr => EvP.ret ?_
        unfold DS at hr
        unfold DL
        simp only [cSs, cS]
        omega
    refine EvP.step (fun k => spec_l92Stmt.f.eq_2 (k := k) ..) (pick_then hb h0 (by omega) fun u u0 u1 _ => ?_)
    dsimp only
    exact EvP.ite (fun h => j0 _ _ _ (by omega) (by omega)) (fun h => j0 _ _ _ (by omega) (by omega))
theorem l92Block_ev (b : List Int) (hb : Bytes b) (d : Nat) (hd : d ≤ 3) (a2 x1 : Int) (ha : a2 = d) (x4 : Bool) (n : Int) (m : Nat) (hn0 : 0 ≤ n) (hn : n ≤ m) (hm : m ≤ 6) (p : Int) (h0 : 0 ≤ p) (h1 : p ≤ 190000000000) :
    EvP (fun k => spec_l92Block.f k b p x1 a2 n x4) (DL p (m * pB d) (m * cB d)) := by
  have hc := cB_le hd
  have hp := pB_le hd
  have e1 : m * pB d ≤ 6 * pB d := Nat.mul_le_mul_right _ hm
  have e2 : m * cB d ≤ 6 * cB d := Nat.mul_le_mul_right _ hm
  exact l92Block_of b x1 a2 x4 (pB d) (cB d) (200000000000 - (d : Int) * 20000000) (fun p h0 h1 => l92Stmt_ev b hb d a2 x1 x4 p hd ha h0 (by omega)) n m hn0 hn (by omega) (by omega) p h0 (by omega)
theorem l92Stmts_l0 (b : List Int) (p : Int) : ∀ (m : Nat) (l : List (S36)), l.length = m → cSs l ≤ 1000000 → EvP (fun k => spec_l92Stmts.l0 k l b p) (fun r => r.2 = p ∧ cSs r.1 ≤ 16) := by
  intro m
  induction m with
  | zero =>
    intro l hm hl
    obtain rfl := List.eq_nil_of_length_eq_zero hm
    refine EvP.step (fun k => spec_l92Stmts.l0.eq_2 (k := k) ..) (EvP.bindEq (spec_l11Count_ev _ _ hl (by omega)) (EvP.no ?_ (EvP.ret ⟨rfl, ?_⟩)))
    · rw [cSs_nil]
      omega
    · rw [cSs_nil]
      omega
  | succ m ih =>
    intro l hm hl
    refine EvP.step (fun k => spec_l92Stmts.l0.eq_2 (k := k) ..) (EvP.bindEq (spec_l11Count_ev _ _ hl (by omega)) (EvP.ite (fun h => ?_) (fun h => EvP.ret ⟨rfl, by dsimp only; omega⟩)))
    have hlen := cSs_length l
    rw [w64 (by omega) (by omega), show (((l.length : Int) - 1)).toNat = m by omega]
    have ht := cSs_take_drop l m
    exact EvP.yes (by omega) (EvP.yes (by omega) (ih _ (by rw [List.length_take]; omega) (by omega)))
theorem l92Stmts_ev (b : List Int) (hb : Bytes b) (p a1 : Int) (h0 : 0 ≤ p) (h1 : p ≤ 180000000000) : EvP (fun k => spec_l92Stmts.f k b p a1) (DL p 3000000 16) := by
  unfold spec_l92Stmts.f
  refine pick_then hb h0 (by omega) fun v v0 v1 _ => ?_
  have := v1 (by omega)
  dsimp only
  rw [w64 (by omega) (by omega)]
  have hc := cB_le (show 3 ≤ 3 by omega)
  have hp := pB_le (show 3 ≤ 3 by omega)
  refine EvP.bind (l92Block_ev b hb 3 (by omega) 3 a1 rfl true (1 + v) 6 (by omega) (by omega) (by omega) _ (by omega) (by omega)) fun r hr => ?_
  obtain ⟨r0, r1, r2⟩ := hr
  refine (l92Stmts_l0 b r.2 _ r.1 rfl (by omega)).mono fun s hs => ?_
  unfold DL
  omega
theorem l92Endless_ev (b : List Int) (hb : Bytes b) (p : Int) (h0 : 0 ≤ p) (h1 : p ≤ 180000000000) : EvP (fun k => spec_l92Endless.f k b p) (DS p 100000 20) := by
  unfold spec_l92Endless.f
  refine EvP.bind0 rfl (pick_then hb h0 (by omega) fun v v0 v1 _ => ?_)
  have := v1 (by omega)
  dsimp only
  refine EvP.bind (l92Block_ev b hb 1 (by omega) 1 0 rfl false v 2 (by omega) (by omega) (by omega) _ (by omega) (by omega)) fun r hr => EvP.ret ?_
  obtain ⟨r0, r1, r2⟩ := hr
  have e1 : cB 1 = 7 := rfl
  have e2 : pB 1 = 25000 := rfl
  rw [e2] at r1
  rw [e1] at r2
  unfold DS
  simp only [cSs_nil]
  omega
theorem l92If_ev (b : List Int) (hb : Bytes b) (p x1 : Int) (x4 : Bool) (h0 : 0 ≤ p) (h1 : p ≤ 180000000000) : EvP (fun k => spec_l92If.f k b p x1 1 x4) (DS p 30000 4) := by
  have e1 : cB 0 = 1 := rfl
  have e2 : pB 0 = 5000 := rfl
  refine (l92If_of b hb x1 1 x4 (pB 0) (cB 0) (by omega) (by omega) 200000000000 (by omega) (fun p h0 h1 => l92Stmt_ev b hb 0 _ x1 x4 p (by omega) (by rw [w64 (by omega) (by omega)]; rfl) h0 (by omega)) p h0 (by omega)).mono fun r hr => ?_
  unfold DS at hr ⊢
  omega
theorem l92Some_ev (b : List Int) (hb : Bytes b) (p : Int) (h0 : 0 ≤ p) (h1 : p ≤ 100000000000) : EvP (fun k => spec_l92Some.f k b p) (DL p 5000000 60) := by
  unfold spec_l92Some.f
  refine EvP.bind (l92Stmts_ev b hb p 3 h0 (by omega)) fun r hr => ?_
  obtain ⟨r0, r1, r2⟩ := hr
  have hlen := cSs_length r.1
  refine pick_then hb (by omega) (by omega) fun v v0 v1 _ => ?_
  dsimp only
  refine EvP.ite (fun h => ?_) (fun h => EvP.ite (fun h => ?_) (fun h => EvP.ite (fun h => ?_) (fun h => EvP.ite (fun h => ?_) (fun h => EvP.ite (fun h => ?_) (fun h => EvP.ite (fun h => ?_) (fun h => EvP.ret ?_))))))
  · refine EvP.bind (l92Endless_ev b hb _ (by omega) (by omega)) fun s hs => EvP.yes (by omega) (EvP.ret ?_)
    unfold DS at hs
    unfold DL
    simp only [cSs_append, cSs, cS]
    omega
  · refine EvP.bind0 rfl (pick_then hb (by omega) (by omega) fun u u0 u1 _ => ?_)
    have := u1 (by omega)
    refine EvP.yes u0 (EvP.yes (by simp; omega) (EvP.yes (by omega) (EvP.ret ?_)))
    unfold DL
    simp only [cSs_append, cSs, cS]
    omega
  · refine EvP.bind (l91Leaf_ev b hb _ (by omega) (by omega)) fun s hs => EvP.yes (by omega) (EvP.ret ?_)
    unfold DL
    simp only [cSs_append, cSs, cS]
    omega
  · refine EvP.yes (by omega) (EvP.ret ?_)
    unfold DL
    simp only [cSs_append, cSs, cS]
    omega
  · refine EvP.bind (l92If_ev b hb _ 1 false (by omega) (by omega)) fun s hs => EvP.yes (by omega) (EvP.ret ?_)
    unfold DS at hs
    unfold DL
    simp only [cSs_append, cSs, cS]
    omega
  · refine EvP.bind (l91Leaf_ev b hb _ (by omega) (by omega)) fun s hs => EvP.yes (by omega) (EvP.ret ?_)
    unfold DL
    simp only [cSs_append, cSs, cS]
    omega
  · unfold DL
    dsimp only
    omega
theorem DrawStmtsValid_l0 (b : List Int) (hb : Bytes b) : ∀ (m : Nat) (l : List (S36)) (p : Int), 20 ≤ l.length + 3 * m → m ≤ 10 → cSs l + 3 * m ≤ 1000 → 0 ≤ p → p + m ≤ 200000000000 →
    EvP (fun k => spec_DrawStmtsValid.l0 k l b p) (fun r => cSs r ≤ cSs l + 3 * m) := by
  intro m
  induction m with
  | zero =>
    intro l p hl hm hc h0 h1
    refine EvP.step (fun k => spec_DrawStmtsValid.l0.eq_2 (k := k) ..) (pick_then hb h0 (by omega) fun v v0 v1 _ => ?_)
    dsimp only
    exact EvP.ite (fun h => EvP.no (by omega) (EvP.ret (by omega))) (fun h => EvP.ret (by omega))
  | succ m ih =>
    intro l p hl hm hc h0 h1
    have hlen := cSs_length l
    refine EvP.step (fun k => spec_DrawStmtsValid.l0.eq_2 (k := k) ..) (pick_then hb h0 (by omega) fun v v0 v1 _ => ?_)
    dsimp only
    refine EvP.ite (fun h => EvP.ite (fun h => EvP.bind0 rfl (EvP.yes (by simp; omega) ?_)) (fun h => EvP.ret (by omega))) (fun h => EvP.ret (by omega))
    have e : cSs (l ++ [(⟨6, 0, 0, (⟨0, 0, ([] : List (S34))⟩ : S34), ([] : List (S36)), ([] : List (S36))⟩ : S36), (⟨6, 0, 0, (⟨0, 0, ([] : List (S34))⟩ : S34), ([] : List (S36)), ([] : List (S36))⟩ : S36), (⟨6, 0, 0, (⟨0, 0, ([] : List (S34))⟩ : S34), ([] : List (S36)), ([] : List (S36))⟩ : S36)]) = cSs l + 3 := by
      simp only [cSs_append, cSs, cS]
    refine (ih _ _ (by rw [List.length_append]; simp; omega) (by omega) (by rw [e]; omega) (by omega) (by omega)).mono fun r hr => ?_
    rw [e] at hr
    omega
theorem DrawStmtsValid_ev (l : List Int) (hl : l.length ≤ 140737488351232) (hw : ∀ x ∈ l, (Lit.int .u8 x).wf = true) : EvP (fun k => spec_DrawStmtsValid.f k l) (fun r => cSs r ≤ 1000) := by
  obtain ⟨b, hb0, hb⟩ := open_bytes l hl hw
  unfold spec_DrawStmtsValid.f
  refine EvP.bind0 hb0 (EvP.bind (l92Some_ev b hb _ (by dsimp only; omega) (by dsimp only; omega)) fun r hr => ?_)
  obtain ⟨r0, r1, r2⟩ := hr
  dsimp only at r0 r1
  refine (DrawStmtsValid_l0 b hb 10 r.1 r.2 (by omega) (by omega) (by omega) (by omega) (by omega)).mono fun s hs => ?_
  omega
theorem DrawStmtsCount_ev (l : List Int) (hl : l.length ≤ 140737488351232) (hw : ∀ x ∈ l, (Lit.int .u8 x).wf = true) : EvP (fun k => spec_DrawStmtsCount.f k l) (fun r => cSs r ≤ 1000) := by
  obtain ⟨b, hb0, hb⟩ := open_bytes l hl hw
  unfold spec_DrawStmtsCount.f
  refine EvP.bind0 hb0 (EvP.bind (l92Some_ev b hb _ (by dsimp only; omega) (by dsimp only; omega)) fun r hr => EvP.ret ?_)
  obtain ⟨r0, r1, r2⟩ := hr
  omega
end Go.Proofs.Ytpifdlpieglhlaa.PA

/- FnCountBlock returns true for every code: no condition. -/
namespace Go.Proofs.Ytpifdlpieglhlaa.Pure
open Go.RowKit Go.Proofs.Ytpifdlpieglhlaa.PA Go.Proofs.YtpifdlpieglhlaaW.PrintWords Go.Proofs.YtpifdlpieglhlaaW.PrintLast Go.Proofs.YtpifdlpieglhlaaW.PrintMore Go.Proofs.Ytpifdlpieglhlaa.Core
theorem blk2 (r : List S36) : okT 3 [(⟨2, 0, 0, ⟨0, 1, []⟩, r, []⟩ : S36)] = (okL 3 2 r && decide (cSs r + 1 ≤ 16)) := by
  have h1 : okL 3 3 [(⟨2, 0, 0, ⟨0, 1, []⟩, r, []⟩ : S36)] = okL 3 2 r := by
    simp [okL, okOne, stS, stOk, restOk, varOk, boxOk, vx, isBlk]
  have h2 : cSs [(⟨2, 0, 0, ⟨0, 1, []⟩, r, []⟩ : S36)] = cSs r + 1 := by
    rw [cSs_one, cS_f, cSs_nil]
  unfold okT
  rw [h1, h2]
theorem blk3 (r : List S36) : okT 3 [(⟨3, 0, 0, ⟨0, 1, []⟩, r, []⟩ : S36)] = (okL 3 2 r && decide (cSs r + 1 ≤ 16)) := by
  have h1 : okL 3 3 [(⟨3, 0, 0, ⟨0, 1, []⟩, r, []⟩ : S36)] = okL 3 2 r := by
    simp [okL, okOne, stS, stOk, restOk, varOk, boxOk, vx, isBlk]
  have h2 : cSs [(⟨3, 0, 0, ⟨0, 1, []⟩, r, []⟩ : S36)] = cSs r + 1 := by
    rw [cSs_one, cS_f, cSs_nil]
  unfold okT
  rw [h1, h2]
theorem FnCountBlock : laws_FnCountBlock.Pure := by
  intro l hl
  refine EvP.ends (r := true) ?_
  unfold laws_FnCountBlock.f
  refine EvP.ite (fun _ => EvP.ret rfl) (fun h => ?_)
  refine EvP.bind (DrawStmtsCount_ev l (by omega) hl.2) fun r hr => ?_
  refine EvP.bindEq (impl_StmtsCount_ev r (by omega)) (EvP.bindEq (spec_StmtsCount_ev r (by omega)) (EvP.ite (fun _ => EvP.ret (by simp)) (fun h => ?_)))
  have hv : okT 3 r = true := by
    rw [Bool.not_eq_true, Bool.or_eq_false_iff, decide_eq_false_iff_not] at h
    have h2 := h.2
    unfold ctT at h2
    by_cases hv : okT 3 r = true
    · exact hv
    · rw [if_neg hv] at h2
      omega
  have hct : ctT r = (cSs r : Int) := if_pos hv
  have c2 : cSs [(⟨2, 0, 0, ⟨0, 1, []⟩, r, []⟩ : S36)] = cSs r + 1 := by rw [cSs_one, cS_f, cSs_nil]
  have c3 : cSs [(⟨3, 0, 0, ⟨0, 1, []⟩, r, []⟩ : S36)] = cSs r + 1 := by rw [cSs_one, cS_f, cSs_nil]
  refine EvP.bindEq (impl_StmtsCount_ev [(⟨2, 0, 0, ⟨0, 1, []⟩, r, []⟩ : S36)] (by omega)) (EvP.bindEq (impl_StmtsCount_ev [(⟨3, 0, 0, ⟨0, 1, []⟩, r, []⟩ : S36)] (by omega)) (EvP.ret ?_))
  unfold ctT at hct ⊢
  rw [blk2, blk3, c2, c3, if_pos hv, w64 (by omega) (by omega)]
  by_cases hk : (okL 3 2 r && decide (cSs r + 1 ≤ 16)) = true
  · rw [if_pos hk]
    simp
  · rw [if_neg hk]
    rfl
end Go.Proofs.Ytpifdlpieglhlaa.Pure


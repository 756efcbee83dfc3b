import Derived.Test.YtajifknepdikbaaCore
import Derived.Laws.BitsLemmas
import Derived.Test.YtajifknepdikbaaPAx1
import Derived.Test.YtajifknepdikbaaPAx0
import Derived.Test.YtajifknepdikbaaPAxSFnExpr
/- Operators over words: plain facts on numbers. -/
namespace Go.Proofs.Ytajifknepdikbaa.PA
open Go.RowKit Go.Proofs.YtajifknepdikbaaW.PrintWords Go.Proofs.YtajifknepdikbaaW.PrintMore Go.Proofs.Ytajifknepdikbaa.Core
def vw (n : Int) : Bool := decide (-2147483648 ≤ n) && decide (n ≤ 2147483647)
theorem vw_iff {n : Int} : vw n = true ↔ -2147483648 ≤ n ∧ n ≤ 2147483647 := by
  unfold vw
  rw [Bool.and_eq_true, decide_eq_true_eq, decide_eq_true_eq]
theorem wrap_nat (z : BitVec 64) : IntKind.i64.wrap (z.toNat : Int) = z.toInt := by
  rw [IntKind.wrap_i64, BitVec.toInt_eq_toNat_cond]
  have := z.isLt
  split <;> omega
theorem word_sext {a : Int} (h : vw a = true) : BitVec.ofInt 64 a = (BitVec.ofInt 32 a).signExtend 64 := by
  have h := vw_iff.1 h
  apply BitVec.eq_of_toInt_eq
  rw [BitVec.toInt_signExtend_of_le (by omega), BitVec.toInt_ofInt, BitVec.toInt_ofInt]
  have e1 : a.bmod (2 ^ 64) = a := Int.bmod_eq_of_le (by omega) (by omega)
  have e2 : a.bmod (2 ^ 32) = a := Int.bmod_eq_of_le (by omega) (by omega)
  rw [e1, e2]
theorem vw_sext (z : BitVec 32) : vw ((z.signExtend 64).toInt) = true := by
  rw [BitVec.toInt_signExtend_of_le (by omega), vw_iff]
  have h1 := BitVec.toInt_lt (x := z)
  have h2 := BitVec.le_toInt (x := z)
  omega
theorem or_word {a b : Int} (ha : vw a = true) (hb : vw b = true) : vw (Go.bits .or .i64 a b) = true := by
  show vw (IntKind.i64.wrap ((BitVec.ofInt 64 a ||| BitVec.ofInt 64 b).toNat : Int)) = true
  rw [wrap_nat, word_sext ha, word_sext hb, ← BitVec.signExtend_or]
  exact vw_sext _
theorem xor_word {a b : Int} (ha : vw a = true) (hb : vw b = true) : vw (Go.bits .xor .i64 a b) = true := by
  show vw (IntKind.i64.wrap ((BitVec.ofInt 64 a ^^^ BitVec.ofInt 64 b).toNat : Int)) = true
  rw [wrap_nat, word_sext ha, word_sext hb, ← BitVec.signExtend_xor]
  exact vw_sext _
theorem and_word {a b : Int} (ha : vw a = true) (hb : vw b = true) : vw (Go.bits .and .i64 a b) = true := by
  show vw (IntKind.i64.wrap ((BitVec.ofInt 64 a &&& BitVec.ofInt 64 b).toNat : Int)) = true
  rw [wrap_nat, word_sext ha, word_sext hb, ← BitVec.signExtend_and]
  exact vw_sext _
theorem or_swap (a b : Int) : Go.bits .or .i64 a b = Go.bits .or .i64 b a := by
  simp only [Go.bits]
  rw [BitVec.or_comm]
theorem xor_swap (a b : Int) : Go.bits .xor .i64 a b = Go.bits .xor .i64 b a := by
  simp only [Go.bits]
  rw [BitVec.xor_comm]
theorem and_swap (a b : Int) : Go.bits .and .i64 a b = Go.bits .and .i64 b a := by
  simp only [Go.bits]
  rw [BitVec.and_comm]
theorem and31 (b : Int) : 0 ≤ Go.bits .and .i64 b 31 ∧ Go.bits .and .i64 b 31 ≤ 31 := by
  simp only [Go.bits]
  rw [show IntKind.i64.bits = 64 from rfl, IntKind.wrap_i64, BitVec.toNat_and]
  have h : (BitVec.ofInt 64 b).toNat &&& (BitVec.ofInt 64 31).toNat ≤ (BitVec.ofInt 64 31).toNat := Nat.and_le_right
  have e : (BitVec.ofInt 64 31).toNat = 31 := by decide
  rw [e] at h ⊢
  omega
theorem w32_vw (a : Int) : vw (wrap32 a) = true := by
  rw [vw_iff]
  unfold wrap32
  omega
theorem w32_word {a : Int} (h : vw a = true) : wrap32 a = a := by
  have h := vw_iff.1 h
  unfold wrap32
  omega
theorem w32_w64 (a : Int) : wrap32 (wrap64 a) = wrap32 a := by
  unfold wrap32 wrap64
  omega
theorem w64_w32 (a : Int) : wrap64 (wrap32 a) = wrap32 a := by
  unfold wrap32 wrap64
  omega
theorem tm_word {a b : Int} (h : vw a = true) : vw (Int.tmod a b) = true := by
  have h := vw_iff.1 h
  rw [vw_iff]
  have e : (Int.tmod a b).natAbs ≤ a.natAbs := by
    rw [Int.natAbs_tmod]
    exact Nat.mod_le _ _
  rcases Int.le_total 0 a with h0 | h0
  · have := Int.tmod_nonneg b h0
    omega
  · have : 0 ≤ Int.tmod (-a) b := Int.tmod_nonneg b (by omega)
    rw [Int.neg_tmod] at this
    omega
/-- The value of an operator. -/
def ap (op a b : Int) : Int :=
  if op = 1 then Go.bits .or .i64 a b else if op = 2 then Go.bits .xor .i64 a b else if op = 3 then Go.bits .and .i64 a b
  else if op = 4 then (if a = b then 1 else 0) else if op = 5 then (if a < b then 1 else 0)
  else if op = 6 then wrap32 (shl .i64 a (Go.bits .and .i64 b 31)) else if op = 7 then shr .i64 a (Go.bits .and .i64 b 31)
  else if op = 8 then wrap32 (a + b) else if op = 9 then wrap32 (a - b) else if op = 10 then wrap32 (a * b)
  else if op = 11 then (if b = 0 then -1 else wrap32 (Int.tdiv a b)) else if b = 0 then a else Int.tmod a b
theorem shr_word {a : Int} (s : Int) (h : vw a = true) : vw (shr .i64 a s) = true := by
  have h := vw_iff.1 h
  rw [vw_iff]
  unfold shr
  have hp : (1 : Int) ≤ 2 ^ min s.toNat IntKind.i64.bits := by
    have : 0 < (2 : Int) ^ min s.toNat IntKind.i64.bits := Int.pow_pos (by omega)
    omega
  generalize (2 : Int) ^ min s.toNat IntKind.i64.bits = p at hp
  constructor
  · rw [Int.le_ediv_iff_mul_le (by omega)]
    have : (-2147483648 : Int) * p ≤ -2147483648 * 1 := Int.mul_le_mul_of_nonpos_left (by omega) hp
    omega
  · have : a / p ≤ 2147483647 / p := Int.ediv_le_ediv (by omega) h.2
    have h2 : (2147483647 : Int) / p ≤ 2147483647 := Int.ediv_le_self _ (by omega)
    omega
theorem ite_vw {c : Prop} [Decidable c] {a b : Int} (ha : vw a = true) (hb : vw b = true) : vw (if c then a else b) = true := by
  split
  · exact ha
  · exact hb
theorem ap_word (op : Int) {a b : Int} (ha : vw a = true) (hb : vw b = true) : vw (ap op a b) = true :=
  ite_vw (or_word ha hb) (ite_vw (xor_word ha hb) (ite_vw (and_word ha hb) (ite_vw (ite_vw (by decide) (by decide)) (ite_vw (ite_vw (by decide) (by decide))
    (ite_vw (w32_vw _) (ite_vw (shr_word _ ha) (ite_vw (w32_vw _) (ite_vw (w32_vw _) (ite_vw (w32_vw _) (ite_vw (ite_vw (by decide) (w32_vw _)) (ite_vw ha (tm_word ha))))))))))))
theorem ap_swap {op : Int} (a b : Int) (h : 1 ≤ op ∧ op ≤ 4 ∨ op = 8 ∨ op = 10) : ap op a b = ap op b a := by
  have hc : op = 1 ∨ op = 2 ∨ op = 3 ∨ op = 4 ∨ op = 8 ∨ op = 10 := by omega
  rcases hc with rfl | rfl | rfl | rfl | rfl | rfl
  · exact or_swap a b
  · exact xor_swap a b
  · exact and_swap a b
  · simp only [ap]
    by_cases e : a = b
    · subst e
      rfl
    · simp [e, Ne.symm e]
  · simp [ap, Int.add_comm]
  · simp [ap, Int.mul_comm]
end Go.Proofs.Ytajifknepdikbaa.PA

/- Words and lists of words: what the small functions of the program and of the reference come to. -/
namespace Go.Proofs.Ytajifknepdikbaa.PA
open Go.RowKit Go.Proofs.YtajifknepdikbaaW.PrintWords Go.Proofs.Ytajifknepdikbaa.Core
theorem l6In_eq (a b c : Int) : spec_l6In.f a b c = some (decide (b ≤ a) && decide (a ≤ c)) := by
  unfold spec_l6In.f
  by_cases h : a ≥ b
  · rw [if_pos h, decide_eq_true h, Bool.true_and]
  · rw [if_neg h, decide_eq_false h, Bool.false_and]
/-- What 'mark' leaves: counted on from k. -/
def marked : Nat → Int → List Int
  | 0, _ => []
  | n + 1, k => k :: marked n (k + 1)
theorem marked_length : ∀ n k, (marked n k).length = n
  | 0, _ => rfl
  | n + 1, k => by rw [marked, List.length_cons, marked_length n]
end Go.Proofs.Ytajifknepdikbaa.PA

/- The reader of a code: what it picks, and how far it goes. -/
namespace Go.Proofs.Ytajifknepdikbaa.PA
open Go.RowKit Go.Proofs.YtajifknepdikbaaW.PrintWords Go.Proofs.Ytajifknepdikbaa.Core
theorem xor_nonneg (x y : Int) (hx : 0 ≤ x) (hx1 : x < 4611686018427387904) (hy : 0 ≤ y) (hy1 : y < 4611686018427387904) : 0 ≤ Go.bits .xor .i64 x y := by
  obtain ⟨a, rfl⟩ := Int.eq_ofNat_of_zero_le hx
  obtain ⟨b, rfl⟩ := Int.eq_ofNat_of_zero_le hy
  have ha : a < 2 ^ 62 := by omega
  have hb : b < 2 ^ 62 := by omega
  have hx := Nat.xor_lt_two_pow ha hb
  simp only [Go.bits, BitVec.ofInt_natCast, BitVec.toNat_xor, BitVec.toNat_ofNat]
  rw [show IntKind.i64.bits = 64 from rfl, Nat.mod_eq_of_lt (a := a) (by omega), Nat.mod_eq_of_lt (a := b) (by omega), IntKind.wrap_i64]
  omega
/-- What is read: few bytes. -/
def Bytes (b : List Int) : Prop := b.length ≤ 2000 ∧ ∀ x ∈ b, 0 ≤ x ∧ x ≤ 255
theorem Bytes.rd {b : List Int} (h : Bytes b) (i : Int) (h0 : 0 ≤ i) (h1 : i < b.length) : 0 ≤ Go.Proofs.YtajifknepdikbaaW.PrintWords.rd b i ∧ Go.Proofs.YtajifknepdikbaaW.PrintWords.rd b i ≤ 255 := h.2 _ (rd_mem b i h0 h1)
theorem open_bytes (l : List Int) (hl : l.length ≤ 140737488351232) (hw : ∀ x ∈ l, (Lit.int .u8 x).wf = true) : ∃ b, spec_l6Open.f l = some (b, 0) ∧ Bytes b := by
  have hb : ∀ x ∈ l, 0 ≤ x ∧ x ≤ 255 := by
    intro x hx
    have h := hw x hx
    simp only [Lit.wf, Bool.and_eq_true, decide_eq_true_eq] at h
    have e1 : IntKind.u8.min = 0 := by decide
    have e2 : IntKind.u8.max = 255 := by decide
    omega
  unfold spec_l6Open.f
  by_cases h : (l.length : Int) > 2000
  · rw [if_pos h, if_pos (by omega)]
    exact ⟨_, rfl, by rw [List.length_take]; omega, fun x hx => hb x (List.mem_of_mem_take hx)⟩
  · rw [if_neg h]
    exact ⟨_, rfl, by omega, hb⟩
/-- A pick: the place goes on by one. -/
def Picked (p n : Int) (r : Int × Int) : Prop := r.2 = p + 1 ∧ 0 ≤ r.1 ∧ (1 ≤ n → r.1 < n) ∧ (n < 1 → r.1 = 0)
theorem pick_ev (b : List Int) (hb : Bytes b) (p n : Int) (h0 : 0 ≤ p) (h1 : p ≤ 1000000000000) : EvP (fun k => spec_l6Rd_pick.f k b p n) (Picked p n) := by
  unfold spec_l6Rd_pick.f
  rw [w64 (n := p + 1) (by omega) (by omega)]
  have hz : EvP (fun k => spec_l6Rd_pick.j0 k n true b (p + 1)) (fun r => r.2 = p + 1 ∧ r.1 = 0) :=
    EvP.step (fun k => spec_l6Rd_pick.j0.eq_2 (k := k) ..) (EvP.yes rfl (EvP.ret ⟨rfl, rfl⟩))
  refine EvP.ite (fun h => ?_) (fun h => ?_)
  · exact hz.mono fun r hr => ⟨hr.1, by omega, fun _ => by omega, fun _ => hr.2⟩
  · cases hl : ((b.length : Int) == 0) with
    | true => exact hz.mono fun r hr => ⟨hr.1, by omega, fun _ => by omega, fun _ => hr.2⟩
    | false =>
      have hl' : (b.length : Int) ≠ 0 := by simpa using hl
      have hbl := hb.1
      refine EvP.step (fun k => spec_l6Rd_pick.j0.eq_2 (k := k) ..) (EvP.no (by decide) ?_)
      rw [w64 (n := p + 1 - 1) (by omega) (by omega), show p + 1 - 1 = p by omega]
      refine EvP.ite (fun h2 => ?_) (fun h2 => ?_)
      · refine EvP.yes h0 (EvP.no (by omega) (EvP.ret ?_))
        have hr := hb.rd p h0 h2
        rw [w64 (by omega) (by omega)]
        have ht := tm_range hr.1 (show 0 < n by omega)
        exact ⟨rfl, ht.1, fun _ => ht.2, fun _ => by omega⟩
      · have t1 := tm_range h0 (show (0 : Int) < b.length by omega)
        have t2 := tm_range (show 0 ≤ p * 7 + 3 by omega) (show (0 : Int) < b.length by omega)
        rw [w64 (n := p * 7) (by omega) (by omega), w64 (n := p * 7 + 3) (by omega) (by omega)]
        refine EvP.no hl' (EvP.yes t1.1 (EvP.yes t1.2 (EvP.yes t2.1 (EvP.yes t2.2 (EvP.no (by omega) (EvP.ret ?_))))))
        have r1 := hb.rd _ t1.1 t1.2
        have r2 := hb.rd _ t2.1 t2.2
        have hd0 : 0 ≤ Int.tdiv p b.length := Int.tdiv_nonneg h0 (by omega)
        have hd1 : Int.tdiv p b.length ≤ p := by
          rw [Int.tdiv_eq_ediv_of_nonneg h0]
          exact Int.ediv_le_self _ h0
        generalize Go.Proofs.YtajifknepdikbaaW.PrintWords.rd b (Int.tmod p b.length) = x1 at *
        generalize Go.Proofs.YtajifknepdikbaaW.PrintWords.rd b (Int.tmod (p * 7 + 3) b.length) = x2 at *
        generalize Int.tdiv p b.length = q at *
        simp only [w64 (n := x1) (by omega) (by omega), w64 (n := x2) (by omega) (by omega), w64 (n := q) (by omega) (by omega)]
        simp only [w64 (n := x1 * 131) (by omega) (by omega), w64 (n := x2 * 1117) (by omega) (by omega), w64 (n := p * 29) (by omega) (by omega), w64 (n := q * 53) (by omega) (by omega)]
        simp only [w64 (n := x1 * 131 + x2 * 1117) (by omega) (by omega)]
        simp only [w64 (n := x1 * 131 + x2 * 1117 + p * 29) (by omega) (by omega)]
        simp only [w64 (n := x1 * 131 + x2 * 1117 + p * 29 + q * 53) (by omega) (by omega)]
        have hs0 : 0 ≤ x1 * 131 + x2 * 1117 + p * 29 + q * 53 := by omega
        have hs1 : x1 * 131 + x2 * 1117 + p * 29 + q * 53 < 1000000000000000 := by omega
        generalize x1 * 131 + x2 * 1117 + p * 29 + q * 53 = s at *
        have hv0 : 0 ≤ Int.tdiv s 64 := Int.tdiv_nonneg hs0 (by omega)
        have hv1 : Int.tdiv s 64 ≤ s := by
          rw [Int.tdiv_eq_ediv_of_nonneg hs0]
          exact Int.ediv_le_self _ hs0
        rw [w64 (n := Int.tdiv s 64) (by omega) (by omega)]
        have hx := xor_nonneg s (Int.tdiv s 64) hs0 (by omega) hv0 (by omega)
        have ht := tm_range hx (show 0 < n by omega)
        exact ⟨rfl, ht.1, fun _ => ht.2, fun _ => by omega⟩
/-- A pick, and what follows. -/
theorem pick_then {β : Type} {b : List Int} (hb : Bytes b) {p n : Int} (h0 : 0 ≤ p) (h1 : p ≤ 1000000000000) {f : Nat → Int × Int → Option β} {R : β → Prop}
    (k : ∀ v, 0 ≤ v → (1 ≤ n → v < n) → (n < 1 → v = 0) → EvP (fun m => f m (v, p + 1)) R) : EvP (fun m => (spec_l6Rd_pick.f m b p n).bind (f m)) R :=
  EvP.bind (pick_ev b hb p n h0 h1) (fun r hr => by
    obtain ⟨v, q⟩ := r
    obtain ⟨e, k0, k1, k2⟩ := hr
    obtain rfl : q = p + 1 := e
    exact k v k0 k1 k2)
end Go.Proofs.Ytajifknepdikbaa.PA

/- What is drawn: words, lists of words. -/

namespace Go.Proofs.Ytajifknepdikbaa.PA
open Go.RowKit Go.Proofs.YtajifknepdikbaaW.PrintWords Go.Proofs.Ytajifknepdikbaa.Core
end Go.Proofs.Ytajifknepdikbaa.PA

/- Expressions as trees: plain definitions and laws, no program in sight. -/
namespace Go.Proofs.Ytajifknepdikbaa.PA
open Go.RowKit Go.Proofs.Ytajifknepdikbaa.Core
inductive X where
  | num (n : Int)
  | var (v : Int)
  | bin (op : Int) (a b : X)
namespace X
def ok : X → Prop
  | num n => 0 ≤ n ∧ n ≤ 99999
  | var v => 0 ≤ v ∧ v < 4
  | bin op a b => (1 ≤ op ∧ op ≤ 12) ∧ a.ok ∧ b.ok
def depth : X → Nat
  | num _ => 1
  | var _ => 1
  | bin _ a b => max a.depth b.depth + 1
def size : X → Nat
  | num _ => 1
  | var _ => 1
  | bin _ a b => a.size + b.size + 1
def eval (g : Int → Int) : X → Int
  | num n => n
  | var v => g v
  | bin op a b => ap op (a.eval g) (b.eval g)
def uses (v : Int) : X → Bool
  | num _ => false
  | var u => decide (u = v)
  | bin _ a b => a.uses v || b.uses v
/-- An operation over two simplified ones. -/
def foldB (op : Int) : X → X → X
  | num m, num n => if 0 ≤ ap op m n ∧ ap op m n ≤ 99999 then num (ap op m n) else bin op (num m) (num n)
  | a, b => bin op a b
def fold : X → X
  | num n => num n
  | var v => var v
  | bin op a b => foldB op a.fold b.fold
def isNum : X → Bool
  | num _ => true
  | _ => false
theorem one_le_depth : ∀ x : X, 1 ≤ x.depth
  | num _ | var _ => Nat.le_refl _
  | bin _ _ _ => Nat.le_add_left _ _
theorem one_le_size : ∀ x : X, 1 ≤ x.size
  | num _ | var _ => Nat.le_refl _
  | bin _ _ _ => Nat.le_add_left _ _
theorem size_depth : ∀ x : X, x.size + 1 ≤ 2 ^ x.depth
  | num _ | var _ => by simp [size, depth]
  | bin _ a b => by
    have ha := size_depth a
    have hb := size_depth b
    have h1 : 2 ^ a.depth ≤ 2 ^ max a.depth b.depth := Nat.pow_le_pow_right (by omega) (Nat.le_max_left _ _)
    have h2 : 2 ^ b.depth ≤ 2 ^ max a.depth b.depth := Nat.pow_le_pow_right (by omega) (Nat.le_max_right _ _)
    simp only [size, depth, Nat.pow_succ]
    omega
theorem eval_word {g : Int → Int} (hg : ∀ v, 0 ≤ v → v < 4 → vw (g v) = true) : ∀ x : X, x.ok → vw (x.eval g) = true
  | num n, h => by
    have h : 0 ≤ n ∧ n ≤ 99999 := h
    simp only [eval]
    rw [vw_iff]
    omega
  | var v, h => hg v h.1 h.2
  | bin op a b, h => ap_word op (eval_word hg a h.2.1) (eval_word hg b h.2.2)
theorem foldB_ok {op : Int} (ho : 1 ≤ op ∧ op ≤ 12) : ∀ {a b : X}, a.ok → b.ok → (foldB op a b).ok := by
  intro a b ha hb
  unfold foldB
  split
  · split
    · assumption
    · exact ⟨ho, ha, hb⟩
  · exact ⟨ho, ha, hb⟩
theorem fold_ok : ∀ x : X, x.ok → x.fold.ok
  | num _, h => h
  | var _, h => h
  | bin _ a b, h => foldB_ok h.1 (fold_ok a h.2.1) (fold_ok b h.2.2)
theorem foldB_depth (op : Int) (a b : X) : (foldB op a b).depth ≤ max a.depth b.depth + 1 := by
  unfold foldB
  split
  · split
    · simp [depth]
    · exact Nat.le_refl _
  · exact Nat.le_refl _
theorem fold_depth : ∀ x : X, x.fold.depth ≤ x.depth
  | num _ => Nat.le_refl _
  | var _ => Nat.le_refl _
  | bin op a b => by
    have ha := fold_depth a
    have hb := fold_depth b
    have h := foldB_depth op a.fold b.fold
    simp only [fold, depth]
    omega
theorem foldB_size (op : Int) (a b : X) : (foldB op a b).size ≤ a.size + b.size + 1 := by
  unfold foldB
  split
  · split
    · simp [size]
    · exact Nat.le_refl _
  · exact Nat.le_refl _
theorem fold_size : ∀ x : X, x.fold.size ≤ x.size
  | num _ => Nat.le_refl _
  | var _ => Nat.le_refl _
  | bin op a b => by
    have ha := fold_size a
    have hb := fold_size b
    have h := foldB_size op a.fold b.fold
    simp only [fold, size]
    omega
theorem foldB_eval (g : Int → Int) (op : Int) (a b : X) : (foldB op a b).eval g = ap op (a.eval g) (b.eval g) := by
  unfold foldB
  split
  · split
    · rfl
    · rfl
  · rfl
theorem fold_eval (g : Int → Int) : ∀ x : X, x.fold.eval g = x.eval g
  | num _ => rfl
  | var _ => rfl
  | bin op a b => by rw [fold, foldB_eval, fold_eval g a, fold_eval g b, eval]
theorem foldB_of {op : Int} {a b : X} (h : ∀ m n, a = num m → b = num n → ¬ (0 ≤ ap op m n ∧ ap op m n ≤ 99999)) : foldB op a b = bin op a b := by
  unfold foldB
  split
  · rw [if_neg (h _ _ rfl rfl)]
  · rfl
theorem foldB_stay (op : Int) (a b : X) : (foldB op a b = bin op a b) ∨ ∃ m, foldB op a b = num m := by
  unfold foldB
  split
  · split
    · exact .inr ⟨_, rfl⟩
    · exact .inl rfl
  · exact .inl rfl
theorem foldB_again (op : Int) (a b : X) (ha : a.fold = a) (hb : b.fold = b) : (foldB op a b).fold = foldB op a b := by
  rcases foldB_stay op a b with h | ⟨m, h⟩
  · rw [h, fold, ha, hb, h]
  · rw [h]
    rfl
theorem fold_again : ∀ x : X, x.fold.fold = x.fold
  | num _ => rfl
  | var _ => rfl
  | bin op a b => foldB_again op _ _ (fold_again a) (fold_again b)
theorem eval_other {g h : Int → Int} {u : Int} (hg : ∀ v, v ≠ u → g v = h v) : ∀ x : X, x.uses u = false → x.eval g = x.eval h
  | num _, _ => rfl
  | var v, hu => hg v (by simpa [uses] using hu)
  | bin op a b, hu => by
    simp only [uses, Bool.or_eq_false_iff] at hu
    rw [eval, eval, eval_other hg a hu.1, eval_other hg b hu.2]
theorem eval_other' {g h : Int → Int} {u : Int} (hg : ∀ v, 0 ≤ v → v < 4 → v ≠ u → g v = h v) : ∀ x : X, x.ok → x.uses u = false → x.eval g = x.eval h
  | num _, _, _ => rfl
  | var v, ho, hu => hg v ho.1 ho.2 (by simpa [uses] using hu)
  | bin op a b, ho, hu => by
    simp only [uses, Bool.or_eq_false_iff] at hu
    rw [eval, eval, eval_other' hg a ho.2.1 hu.1, eval_other' hg b ho.2.2 hu.2]
end X
end Go.Proofs.Ytajifknepdikbaa.PA

/- Expressions: what the functions of the program and of the reference come to, on valid expressions as trees. -/
namespace Go.Proofs.Ytajifknepdikbaa.PA
open Go.RowKit Go.Proofs.YtajifknepdikbaaW.PrintWords Go.Proofs.YtajifknepdikbaaW.PrintMore Go.Proofs.Ytajifknepdikbaa.Core
/-- A tree, as the program holds it. -/
def emb : X → S25
  | .num n => ⟨0, n, []⟩
  | .var v => ⟨13, v, []⟩
  | .bin op a b => ⟨op, 0, [emb a, emb b]⟩
theorem rdE_nat (l : List S25) (i : Nat) (h : i < l.length) : rd_T25 l (i : Int) = l[i] := by
  unfold rd_T25
  rw [Int.toNat_natCast, List.getD_eq_getElem?_getD, List.getElem?_eq_getElem h]
  rfl
theorem rdE_0 (a b : S25) : rd_T25 [a, b] 0 = a := rfl
theorem rdE_1 (a b : S25) : rd_T25 [a, b] 1 = b := rfl
theorem etaE (a : S25) : (⟨a.f0, a.f1, a.f2⟩ : S25) = a := by
  cases a
  rfl
/-- Is it valid with at most so much depth? -/
def vx : Nat → Int → Int → List S25 → Bool
  | 0, _, _, _ => false
  | d + 1, op, n, l =>
    if op = 0 then decide (0 ≤ n) && (decide (n ≤ 99999) && decide (l.length = 0))
    else if op = 13 then decide (0 ≤ n) && (decide (n < 4) && decide (l.length = 0))
    else decide (1 ≤ op) && (decide (op ≤ 12) && (decide (n = 0) && (match l with
      | [a, b] => vx d a.f0 a.f1 a.f2 && vx d b.f0 b.f1 b.f2
      | _ => false)))
theorem two_of {α : Type} {l : List α} (h : l.length = 2) : ∃ a b, l = [a, b] := by
  match l, h with
  | [a, b], _ => exact ⟨a, b, rfl⟩
theorem vx_tree : ∀ (d : Nat) (op n : Int) (l : List S25), vx d op n l = true → ∃ x : X, x.ok ∧ x.depth ≤ d ∧ emb x = ⟨op, n, l⟩
  | 0, _, _, _, h => by cases h
  | d + 1, op, n, l, h => by
    unfold vx at h
    by_cases h0 : op = 0
    · rw [if_pos h0] at h
      simp only [Bool.and_eq_true, decide_eq_true_eq] at h
      subst h0
      exact ⟨.num n, ⟨h.1, h.2.1⟩, by simp [X.depth], by rw [emb, List.eq_nil_of_length_eq_zero h.2.2]⟩
    · rw [if_neg h0] at h
      by_cases h13 : op = 13
      · rw [if_pos h13] at h
        simp only [Bool.and_eq_true, decide_eq_true_eq] at h
        subst h13
        exact ⟨.var n, ⟨h.1, h.2.1⟩, by simp [X.depth], by rw [emb, List.eq_nil_of_length_eq_zero h.2.2]⟩
      · rw [if_neg h13] at h
        simp only [Bool.and_eq_true, decide_eq_true_eq] at h
        obtain ⟨h1, h2, h3, h4⟩ := h
        split at h4
        · rename_i a b
          simp only [Bool.and_eq_true] at h4
          obtain ⟨x, x1, x2, x3⟩ := vx_tree d a.f0 a.f1 a.f2 h4.1
          obtain ⟨y, y1, y2, y3⟩ := vx_tree d b.f0 b.f1 b.f2 h4.2
          exact ⟨.bin op x y, ⟨⟨h1, h2⟩, x1, y1⟩, by simp only [X.depth]; omega, by rw [emb, x3, y3, h3, etaE, etaE]⟩
        · cases h4
theorem vx_emb : ∀ (x : X) (d : Nat), x.ok → (vx d (emb x).f0 (emb x).f1 (emb x).f2 = decide (x.depth ≤ d))
  | x, 0, _ => by
    have := X.one_le_depth x
    rw [decide_eq_false (by omega)]
    rfl
  | .num n, d + 1, h => by
    have h : 0 ≤ n ∧ n ≤ 99999 := h
    simp [vx, emb, X.depth, h.1, h.2]
  | .var v, d + 1, h => by
    have h : 0 ≤ v ∧ v < 4 := h
    simp [vx, emb, X.depth, h.1, h.2]
  | .bin op a b, d + 1, h => by
    have h1 := h.1
    have ha := vx_emb a d h.2.1
    have hb := vx_emb b d h.2.2
    have e0 : ¬ (op = 0) := by omega
    have e13 : ¬ (op = 13) := by omega
    have e : (X.bin op a b).depth = max a.depth b.depth + 1 := rfl
    show (if op = 0 then _ else if op = 13 then _ else decide (1 ≤ op) && (decide (op ≤ 12) && (true && (vx d (emb a).f0 (emb a).f1 (emb a).f2 && vx d (emb b).f0 (emb b).f1 (emb b).f2)))) = _
    rw [if_neg e0, if_neg e13, decide_eq_true h1.1, decide_eq_true h1.2, ha, hb, e, Bool.true_and, Bool.true_and, Bool.true_and, Bool.eq_iff_iff]
    simp only [Bool.and_eq_true, decide_eq_true_eq]
    omega
theorem impl_OpValid_eq (a : Int) : impl_OpValid.f a = some (decide (1 ≤ a) && decide (a ≤ 12)) := by
  unfold impl_OpValid.f
  by_cases h : a ≥ 1
  · rw [if_pos h, decide_eq_true h, Bool.true_and]
  · rw [if_neg h, decide_eq_false h, Bool.false_and]
theorem spec_OpValid_eq (a : Int) : spec_OpValid.f a = some (decide (1 ≤ a) && decide (a ≤ 12)) := by
  unfold spec_OpValid.f
  rw [l6In_eq]
  rfl
theorem impl_exprValid_ev : ∀ (d : Nat) (op n : Int) (l : List S25), d ≤ 1000 → EvP (fun k => impl_exprValid.f k op n l (d : Int)) (· = vx d op n l)
  | 0, op, n, l, hd => by
    refine EvP.step (fun k => impl_exprValid.f.eq_2 (k := k) ..) ?_
    refine EvP.ite (fun h => ?_) (fun h => ?_)
    · refine EvP.ite (fun _ => EvP.ite (fun _ => EvP.ite (fun _ => EvP.ret ?_) (fun _ => EvP.ret ?_)) (fun _ => EvP.ret ?_)) (fun _ => EvP.ret ?_) <;> simp [vx]
    · refine EvP.ite (fun h => ?_) (fun h => ?_)
      · refine EvP.ite (fun _ => EvP.ite (fun _ => EvP.ite (fun _ => EvP.ret ?_) (fun _ => EvP.ret ?_)) (fun _ => EvP.ret ?_)) (fun _ => EvP.ret ?_) <;> simp [vx]
      · refine EvP.bind0 (impl_OpValid_eq op) (EvP.ite (fun _ => EvP.ite (fun _ => EvP.ite (fun _ => EvP.no (by omega) (EvP.ret ?_)) (fun _ => EvP.ret ?_)) (fun _ => EvP.ret ?_)) (fun _ => EvP.ret ?_)) <;> simp [vx]
  | d + 1, op, n, l, hd => by
    refine EvP.step (fun k => impl_exprValid.f.eq_2 (k := k) ..) ?_
    unfold vx
    refine EvP.ite (fun h => ?_) (fun h => ?_)
    · rw [if_pos h]
      refine EvP.ite (fun h1 => EvP.ite (fun h2 => EvP.ite (fun h3 => EvP.ret ?_) (fun h3 => EvP.ret ?_)) (fun h2 => EvP.ret ?_)) (fun h1 => EvP.ret ?_)
      · rw [decide_eq_true (show 0 ≤ n from h1), decide_eq_true h2, decide_eq_true (show l.length = 0 by omega)]
        simp
      · rw [decide_eq_false (p := l.length = 0) (by omega)]
        simp
      · rw [decide_eq_false h2]
        simp
      · rw [decide_eq_false (p := 0 ≤ n) h1]
        simp
    · rw [if_neg h]
      refine EvP.ite (fun h => ?_) (fun h13 => ?_)
      · rw [if_pos h]
        refine EvP.ite (fun h1 => EvP.ite (fun h2 => EvP.ite (fun h3 => EvP.ret ?_) (fun h3 => EvP.ret ?_)) (fun h2 => EvP.ret ?_)) (fun h1 => EvP.ret ?_)
        · rw [decide_eq_true (show 0 ≤ n from h1), decide_eq_true h2, decide_eq_true (show l.length = 0 by omega)]
          simp
        · rw [decide_eq_false (p := l.length = 0) (by omega)]
          simp
        · rw [decide_eq_false h2]
          simp
        · rw [decide_eq_false (p := 0 ≤ n) h1]
          simp
      · rw [if_neg h13]
        refine EvP.bind0 (impl_OpValid_eq op) (EvP.ite (fun h1 => ?_) (fun h1 => EvP.ret ?_))
        · simp only [Bool.and_eq_true, decide_eq_true_eq] at h1
          rw [decide_eq_true h1.1, decide_eq_true h1.2]
          refine EvP.ite (fun h2 => ?_) (fun h2 => EvP.ret (by rw [decide_eq_false h2]; rfl))
          rw [decide_eq_true h2]
          refine EvP.ite (fun h3 => ?_) (fun h3 => EvP.ret ?_)
          · obtain ⟨a, b, rfl⟩ := two_of (show l.length = 2 by omega)
            refine EvP.ite (fun h4 => ?_) (fun h4 => EvP.ret ?_)
            · rw [w64 (by omega) (by omega), show ((d + 1 : Nat) : Int) - 1 = (d : Int) by omega, rdE_0, rdE_1]
              refine EvP.yes (by simp) (EvP.bindEq (impl_exprValid_ev d _ _ _ (by omega)) (EvP.ite (fun h5 => ?_) (fun h5 => EvP.ret ?_)))
              · refine EvP.yes (by simp) (EvP.bindEq (impl_exprValid_ev d _ _ _ (by omega)) (EvP.ret ?_))
                simp [h5]
              · simp [h5]
            · have hd0 : d = 0 := by omega
              subst hd0
              rfl
          · split
            · simp at h3
            · rfl
        · symm
          rw [Bool.eq_false_iff]
          intro e
          simp only [Bool.and_eq_true, decide_eq_true_eq] at e h1
          exact h1 ⟨e.1, e.2.1⟩
theorem spec_l4Ok_ev : ∀ (d : Nat) (op n : Int) (l : List S25), d ≤ 1000 → EvP (fun k => spec_l4Ok.f k op n l (d : Int)) (· = vx d op n l)
  | 0, op, n, l, hd => EvP.step (fun k => spec_l4Ok.f.eq_2 (k := k) ..) (EvP.yes (by omega) (EvP.ret rfl))
  | d + 1, op, n, l, hd => by
    have hlen : ((l.length : Int) == 0) = decide (l.length = 0) := by
      rw [Bool.eq_iff_iff, beq_iff_eq, decide_eq_true_eq]
      omega
    refine EvP.step (fun k => spec_l4Ok.f.eq_2 (k := k) ..) (EvP.no (by omega) ?_)
    unfold vx
    refine EvP.ite (fun h => ?_) (fun h => ?_)
    · rw [if_pos h, l6In_eq]
      refine EvP.bind0 rfl (EvP.ite (fun h1 => EvP.ret ?_) (fun h1 => EvP.ret ?_))
      · rw [hlen]
        simp only [Bool.and_eq_true, decide_eq_true_eq] at h1
        rw [decide_eq_true h1.1, decide_eq_true h1.2]
        rfl
      · rw [← Bool.and_assoc, Bool.eq_false_iff.mpr h1]
        rfl
    · rw [if_neg h]
      refine EvP.ite (fun h => ?_) (fun h13 => ?_)
      · rw [if_pos h, l6In_eq]
        have e3 : decide (n < 4) = decide (n ≤ 3) := decide_eq_decide.mpr (by omega)
        rw [e3]
        refine EvP.bind0 rfl (EvP.ite (fun h1 => EvP.ret ?_) (fun h1 => EvP.ret ?_))
        · rw [hlen]
          simp only [Bool.and_eq_true, decide_eq_true_eq] at h1
          rw [decide_eq_true h1.1, decide_eq_true h1.2]
          rfl
        · rw [← Bool.and_assoc, Bool.eq_false_iff.mpr h1]
          rfl
      · rw [if_neg h13]
        refine EvP.bind0 (spec_OpValid_eq op) (EvP.ite (fun h1 => ?_) (fun h1 => EvP.ret ?_))
        · simp only [Bool.and_eq_true, decide_eq_true_eq] at h1
          rw [decide_eq_true h1.1, decide_eq_true h1.2]
          refine EvP.ite (fun h2 => ?_) (fun h2 => EvP.ret (by rw [decide_eq_false h2]; rfl))
          rw [decide_eq_true h2]
          refine EvP.ite (fun h3 => ?_) (fun h3 => EvP.ret ?_)
          · obtain ⟨a, b, rfl⟩ := two_of (show l.length = 2 by omega)
            rw [w64 (by omega) (by omega), show ((d + 1 : Nat) : Int) - 1 = (d : Int) by omega, rdE_0, rdE_1]
            refine EvP.yes (by simp) (EvP.bindEq (spec_l4Ok_ev d _ _ _ (by omega)) (EvP.ite (fun h5 => ?_) (fun h5 => EvP.ret ?_)))
            · refine EvP.yes (by simp) (EvP.bindEq (spec_l4Ok_ev d _ _ _ (by omega)) (EvP.ret ?_))
              simp [h5]
            · simp [h5]
          · split
            · simp at h3
            · rfl
        · rw [← Bool.and_assoc, Bool.eq_false_iff.mpr h1]
          rfl
theorem spec_ExprValid_ev (op n : Int) (l : List S25) : EvP (fun k => spec_ExprValid.f k op n l) (· = vx 5 op n l) := by
  unfold spec_ExprValid.f
  exact EvP.bindEq (spec_l4Ok_ev 5 op n l (by omega)) (EvP.ret rfl)
theorem impl_ExprValid_ev (op n : Int) (l : List S25) : EvP (fun k => impl_ExprValid.f k op n l) (· = vx 5 op n l) := by
  unfold impl_ExprValid.f
  exact EvP.bindEq (impl_exprValid_ev 5 op n l (by omega)) (EvP.ret rfl)
end Go.Proofs.Ytajifknepdikbaa.PA

/- What is drawn: expressions, the values of variables. -/
namespace Go.Proofs.Ytajifknepdikbaa.PA
open Go.RowKit Go.Proofs.YtajifknepdikbaaW.PrintWords Go.Proofs.Ytajifknepdikbaa.Core
theorem l91Op_ev (b : List Int) (hb : Bytes b) (p : Int) (h0 : 0 ≤ p) (h1 : p ≤ 900000000000) : EvP (fun k => spec_l91Op.f k b p) (fun r => r.2 = p + 1 ∧ 1 ≤ r.1 ∧ r.1 ≤ 12) := by
  unfold spec_l91Op.f
  refine pick_then hb h0 (by omega) fun v v0 v1 _ => ?_
  have := v1 (by omega)
  dsimp only
  rw [w64 (by omega) (by omega)]
  exact EvP.ret (by dsimp only; omega)
theorem l91Leaf_ev (b : List Int) (hb : Bytes b) (p : Int) (h0 : 0 ≤ p) (h1 : p ≤ 900000000000) : EvP (fun k => spec_l91Leaf.f k b p) (fun r => p ≤ r.2.2.2 ∧ r.2.2.2 ≤ p + 2 ∧ r.2.2.1.length = 0) := by
  unfold spec_l91Leaf.f
  refine pick_then hb h0 (by omega) fun v v0 v1 _ => ?_
  dsimp only
  refine EvP.ite (fun h => ?_) (fun h => ?_)
  · refine pick_then hb (by omega) (by omega) fun v2 w0 w1 _ => ?_
    exact EvP.bind0 rfl (EvP.ret (by simp; omega))
  · refine EvP.ite (fun h => ?_) (fun h => ?_)
    · refine EvP.bind0 rfl (pick_then hb (by omega) (by omega) fun v2 w0 w1 _ => ?_)
      have := w1 (by omega)
      exact EvP.yes w0 (EvP.yes (by simp; omega) (EvP.bind0 rfl (EvP.ret (by simp; omega))))
    · refine pick_then hb (by omega) (by omega) fun v2 w0 w1 _ => ?_
      exact EvP.bind0 rfl (EvP.ret (by simp; omega))
theorem l91Expr_ev (b : List Int) (hb : Bytes b) : ∀ (d : Nat) (p : Int), d ≤ 10 → 0 ≤ p → p + 4 ^ (d + 1) ≤ 800000000000 → EvP (fun k => spec_l91Expr.f k b p (d : Int)) (fun r => p ≤ r.2.2.2 ∧ r.2.2.2 ≤ p + 4 ^ (d + 1) ∧ r.2.2.1.length ≤ 2) := by
  intro d
  have leaf : ∀ (d' : Int) (q : Int) (p : Int) (m : Nat), 0 ≤ q → q ≤ 800000000000 → p ≤ q → q + 2 ≤ p + 4 ^ (m + 1) → EvP (fun k => spec_l91Expr.j0 k d' true b q) (fun r => p ≤ r.2.2.2 ∧ r.2.2.2 ≤ p + 4 ^ (m + 1) ∧ r.2.2.1.length ≤ 2) := by
    intro d' q p m h0 h1 h2 h3
    refine EvP.step (fun k => spec_l91Expr.j0.eq_2 (k := k) ..) (EvP.yes rfl ?_)
    refine EvP.bind (l91Leaf_ev b hb q h0 (by omega)) fun r hr => ?_
    exact EvP.ret (by dsimp only; omega)
  induction d with
  | zero =>
    intro p hd h0 h1
    refine EvP.step (fun k => spec_l91Expr.f.eq_2 (k := k) ..) (EvP.yes (by omega) ?_)
    exact leaf _ p p 0 h0 (by omega) (by omega) (by omega)
  | succ d ih =>
    intro p hd h0 h1
    have h4 : (4 : Int) ^ (d + 1 + 1) = 4 * 4 ^ (d + 1) := by rw [Int.pow_succ, Int.mul_comm]
    have h5 : (4 : Int) ≤ 4 ^ (d + 1) := by
      have : 0 < (4 : Int) ^ d := Int.pow_pos (by omega)
      rw [Int.pow_succ]
      omega
    refine EvP.step (fun k => spec_l91Expr.f.eq_2 (k := k) ..) (EvP.ite (fun h => ?_) (fun h => ?_))
    · exact leaf _ p p (d + 1) h0 (by omega) (by omega) (by omega)
    · refine pick_then hb h0 (by omega) fun v v0 v1 _ => ?_
      dsimp only
      cases hv : (v == 0) with
      | true => exact leaf _ (p + 1) p (d + 1) (by omega) (by omega) (by omega) (by omega)
      | false =>
        refine EvP.step (fun k => spec_l91Expr.j0.eq_2 (k := k) ..) (EvP.no (by simp) ?_)
        rw [w64 (by omega) (by omega), show ((d + 1 : Nat) : Int) - 1 = (d : Int) by omega]
        refine EvP.bind (l91Op_ev b hb (p + 1) (by omega) (by omega)) fun r hr => ?_
        refine EvP.bind (ih r.2 (by omega) (by omega) (by omega)) fun s hs => ?_
        refine EvP.bind (ih s.2.2.2 (by omega) (by omega) (by omega)) fun u hu => ?_
        exact EvP.bind0 rfl (EvP.ret (by simp; omega))
theorem l91Expr_ev' (b : List Int) (hb : Bytes b) (d : Int) (p : Int) (hd0 : 0 ≤ d) (hd : d ≤ 5) (h0 : 0 ≤ p) (h1 : p ≤ 700000000000) : EvP (fun k => spec_l91Expr.f k b p d) (fun r => p ≤ r.2.2.2 ∧ r.2.2.2 ≤ p + 4096 ∧ r.2.2.1.length ≤ 2) := by
  have hp : (4 : Int) ^ (d.toNat + 1) ≤ 4096 := by
    have : d.toNat ≤ 5 := by omega
    have h2 : 4 ^ (d.toNat + 1) ≤ 4 ^ 6 := Nat.pow_le_pow_right (by omega) (by omega)
    have h3 : ((4 ^ (d.toNat + 1) : Nat) : Int) ≤ 4096 := by omega
    rw [Int.natCast_pow] at h3
    exact h3
  have h := l91Expr_ev b hb d.toNat p (by omega) h0 (by omega)
  rw [Int.toNat_of_nonneg hd0] at h
  exact h.mono fun r hr => by omega
theorem l91Spoilt_ev (b : List Int) (hb : Bytes b) (p : Int) (h0 : 0 ≤ p) (h1 : p ≤ 100000000000) : EvP (fun k => spec_l91Spoilt.f k b p) (fun r => p ≤ r.2.2.2 ∧ r.2.2.2 ≤ p + 20000 ∧ r.2.2.1.length ≤ 3) := by
  unfold spec_l91Spoilt.f
  refine pick_then hb h0 (by omega) fun v v0 v1 _ => ?_
  have := v1 (by omega)
  dsimp only
  rw [w64 (by omega) (by omega)]
  refine EvP.bind (l91Expr_ev' b hb _ _ (by omega) (by omega) (by omega) (by omega)) fun r hr => ?_
  refine pick_then hb (by omega) (by omega) fun c _ _ _ => ?_
  dsimp only
  refine EvP.ite (fun h => ?_) (fun h => ?_)
  · refine EvP.bind0 rfl (pick_then hb (by omega) (by omega) fun v2 w0 w1 _ => ?_)
    have := w1 (by omega)
    exact EvP.yes w0 (EvP.yes (by simp; omega) (EvP.ret (by dsimp only; omega)))
  refine EvP.ite (fun h => ?_) (fun h => ?_)
  · refine EvP.bind0 rfl (pick_then hb (by omega) (by omega) fun v2 w0 w1 _ => ?_)
    have := w1 (by omega)
    exact EvP.yes w0 (EvP.yes (by simp; omega) (EvP.ret (by dsimp only; omega)))
  refine EvP.ite (fun h => ?_) (fun h => ?_)
  · refine EvP.bind (l91Leaf_ev b hb _ (by omega) (by omega)) fun s hs => ?_
    exact EvP.yes (by omega) (EvP.ret (by simp; omega))
  refine EvP.ite (fun h => ?_) (fun h => ?_)
  · refine EvP.bind (l91Leaf_ev b hb _ (by omega) (by omega)) fun s hs => ?_
    refine EvP.bind0 rfl (EvP.bind (l91Expr_ev' b hb 5 _ (by omega) (by omega) (by omega) (by omega)) fun u hu => ?_)
    exact EvP.bind0 rfl (EvP.ret (by simp; omega))
  refine EvP.ite (fun h => ?_) (fun h => ?_)
  · refine EvP.bind (l91Op_ev b hb _ (by omega) (by omega)) fun s hs => ?_
    refine EvP.bind (l91Expr_ev' b hb 4 _ (by omega) (by omega) (by omega) (by omega)) fun u hu => ?_
    exact EvP.bind0 rfl (EvP.bind0 rfl (EvP.ret (by simp; omega)))
  · exact EvP.ret (by dsimp only; omega)
theorem DrawExprValid_ev (l : List Int) (hl : l.length ≤ 140737488351232) (hw : ∀ x ∈ l, (Lit.int .u8 x).wf = true) : EvP (fun k => spec_DrawExprValid.f k l) (fun r => r.2.2.length ≤ 3) := by
  obtain ⟨b, hb0, hb⟩ := open_bytes l hl hw
  unfold spec_DrawExprValid.f
  refine EvP.bind0 hb0 (pick_then hb (by dsimp only; omega) (by dsimp only; omega) fun c _ _ _ => ?_)
  dsimp only
  refine EvP.ite (fun h => ?_) (fun h => ?_)
  · refine EvP.bind (l91Expr_ev' b hb 5 _ (by omega) (by omega) (by omega) (by omega)) fun u hu => ?_
    refine EvP.bind (l91Leaf_ev b hb _ (by omega) (by omega)) fun s hs => ?_
    exact EvP.bind0 rfl (EvP.ret (by simp))
  · refine EvP.bind (l91Spoilt_ev b hb _ (by omega) (by omega)) fun r hr => ?_
    exact EvP.ret hr.2.2
end Go.Proofs.Ytajifknepdikbaa.PA

/- Expressions: values, depths, sizes, simplifying, on valid expressions as trees. -/
namespace Go.Proofs.Ytajifknepdikbaa.PA
open Go.RowKit Go.Proofs.YtajifknepdikbaaW.PrintWords Go.Proofs.YtajifknepdikbaaW.PrintMore Go.Proofs.Ytajifknepdikbaa.Core
def tri (e : S25) : Int × Int × List S25 := (e.f0, e.f1, e.f2)
/-- Are these the values of the variables? -/
def vars4 (vs : List Int) : Bool := decide (vs.length = 4) && vs.all vw
theorem vars4_iff {vs : List Int} : vars4 vs = true ↔ vs.length = 4 ∧ vs.all vw = true := by
  unfold vars4
  simp only [Bool.and_eq_true, decide_eq_true_eq]
theorem vars4_words {vs : List Int} (h : vars4 vs = true) : ∀ v, 0 ≤ v → v < 4 → vw (rd vs v) = true := by
  intro v h0 h4
  obtain ⟨h1, h2⟩ := vars4_iff.1 h
  exact List.all_eq_true.1 h2 _ (rd_mem vs v h0 (by omega))
end Go.Proofs.Ytajifknepdikbaa.PA

/- Expressions: depths, sizes, variables, simplifying, comparing, on valid expressions as trees. -/

namespace Go.Proofs.Ytajifknepdikbaa.PA
open Go.RowKit Go.Proofs.YtajifknepdikbaaW.PrintWords Go.Proofs.YtajifknepdikbaaW.PrintMore Go.Proofs.Ytajifknepdikbaa.Core
theorem size_32 (x : X) (hd : x.depth ≤ 5) : x.size ≤ 31 := by
  have h1 := X.size_depth x
  have h2 : 2 ^ x.depth ≤ 2 ^ 5 := Nat.pow_le_pow_right (by omega) hd
  omega
theorem emb_op {x : X} (h : x.ok) : (emb x).f0 = 0 ↔ ∃ n, x = .num n := by
  cases x with
  | num n => exact ⟨fun _ => ⟨n, rfl⟩, fun _ => rfl⟩
  | var v =>
    refine ⟨fun e => ?_, fun ⟨n, e⟩ => by cases e⟩
    simp [emb] at e
  | bin op a b =>
    refine ⟨fun e => ?_, fun ⟨n, e⟩ => by cases e⟩
    have e : op = 0 := e
    have ho := h.1
    omega
theorem tri_bin (op : Int) (a b : X) : tri (emb (.bin op a b)) = (op, 0, [emb a, emb b]) := rfl
end Go.Proofs.Ytajifknepdikbaa.PA

/- Expressions: two ways of a drawn one. -/
namespace Go.Proofs.Ytajifknepdikbaa.PA
open Go.RowKit Go.Proofs.YtajifknepdikbaaW.PrintWords Go.Proofs.YtajifknepdikbaaW.PrintMore Go.Proofs.Ytajifknepdikbaa.Core
theorem vx_parts {op n : Int} {a : List S25} (h : vx 5 op n a = true) : ∃ x : X, x.ok ∧ x.depth ≤ 5 ∧ op = (emb x).f0 ∧ n = (emb x).f1 ∧ a = (emb x).f2 := by
  obtain ⟨x, h1, h2, h3⟩ := vx_tree 5 op n a h
  exact ⟨x, h1, h2, by rw [h3], by rw [h3], by rw [h3]⟩
theorem vx_yes {x : X} (h : x.ok) (hd : x.depth ≤ 5) : vx 5 (emb x).f0 (emb x).f1 (emb x).f2 = true := by
  rw [vx_emb x 5 h]
  exact decide_eq_true hd
theorem foldB_uses (v op : Int) (a b : X) (h : (X.foldB op a b).uses v = true) : (a.uses v || b.uses v) = true := by
  rcases X.foldB_stay op a b with e | ⟨m, e⟩
  · rw [e] at h
    exact h
  · rw [e] at h
    cases h
theorem fold_uses (v : Int) : ∀ x : X, x.fold.uses v = true → x.uses v = true
  | .num _, h => h
  | .var _, h => h
  | .bin op a b, h => by
    have h2 := foldB_uses v op _ _ h
    rw [Bool.or_eq_true] at h2
    rw [X.uses, Bool.or_eq_true]
    exact h2.imp (fold_uses v a) (fold_uses v b)
end Go.Proofs.Ytajifknepdikbaa.PA

/- FnExpr returns true for every code: no condition. -/
namespace Go.Proofs.Ytajifknepdikbaa.Pure
open Go.RowKit Go.Proofs.Ytajifknepdikbaa.PA Go.Proofs.YtajifknepdikbaaW.PrintWords Go.Proofs.YtajifknepdikbaaW.PrintLast Go.Proofs.YtajifknepdikbaaW.PrintMore Go.Proofs.Ytajifknepdikbaa.Core
theorem FnExpr : laws_FnExpr.Pure := by
  intro l hl
  refine EvP.ends (r := true) ?_
  unfold laws_FnExpr.f
  refine EvP.ite (fun _ => EvP.ret rfl) (fun h => ?_)
  refine EvP.bind (DrawExprValid_ev l (by omega) hl.2) fun r hr => ?_
  obtain ⟨op, n, a⟩ := r
  dsimp only at hr ⊢
  refine EvP.bindEq (impl_ExprValid_ev _ _ _) (EvP.bindEq (spec_ExprValid_ev _ _ _) ?_)
  cases hv : vx 5 op n a with
  | false => exact EvP.yes (by simp) (EvP.ret (by simp))
  | true =>
    obtain ⟨x, hx, hd, rfl, rfl, rfl⟩ := vx_parts hv
    refine EvP.no (by simp) (EvP.yes (by omega) (EvP.bindEq (impl_ExprValid_ev _ _ _) ?_))
    cases x with
    | num m =>
      refine EvP.yes rfl (EvP.ret ?_)
      simp [emb, vx]
    | var m =>
      refine EvP.yes rfl (EvP.ret ?_)
      simp [emb, vx]
    | bin o p q =>
      have h3 : vx 5 (emb (X.bin o p q)).f0 (emb (X.bin o p q)).f1 ((emb (X.bin o p q)).f2 ++ [⟨0, 1, []⟩]) = false := by
        have h0 : o ≠ 0 := by have := hx.1.1; omega
        have h13 : o ≠ 13 := by have := hx.1.2; omega
        simp [emb, vx, h0, h13]
      rw [h3]
      have hp : p.depth ≤ 5 := by simp only [X.depth] at hd; omega
      have hq : q.depth ≤ 5 := by simp only [X.depth] at hd; omega
      have e0 : rd_T25 (emb (X.bin o p q)).f2 0 = emb p := rfl
      have e1 : rd_T25 (emb (X.bin o p q)).f2 1 = emb q := rfl
      rw [e0, e1]
      refine EvP.no (by simp [emb]) (EvP.yes (by simp [emb]) (EvP.bindEq (impl_ExprValid_ev _ _ _) ?_))
      rw [vx_yes hx.2.1 hp]
      refine EvP.yes rfl (EvP.bindEq (impl_ExprValid_ev _ _ _) ?_)
      rw [vx_yes hx.2.2 hq]
      exact EvP.yes rfl (EvP.ret rfl)
end Go.Proofs.Ytajifknepdikbaa.Pure


import Derived.Test.YtpcbfcaacilghaaCore
import Derived.Laws.BitsLemmas
import Derived.Test.YtpcbfcaacilghaaPAx1
import Derived.Test.YtpcbfcaacilghaaPAx0
import Derived.Test.YtpcbfcaacilghaaPAxo
import Derived.Test.YtpcbfcaacilghaaPAxSFnExactProgramPlain
/- Operators over words: plain facts on numbers. -/
namespace Go.Proofs.Ytpcbfcaacilghaa.PA
open Go.RowKit Go.Proofs.YtpcbfcaacilghaaW.PrintWords Go.Proofs.YtpcbfcaacilghaaW.PrintMore Go.Proofs.Ytpcbfcaacilghaa.Core
def vw (n : Int) : Bool := decide (-2147483648 ≤ n) && decide (n ≤ 2147483647)
theorem vw_iff {n : Int} : vw n = true ↔ -2147483648 ≤ n ∧ n ≤ 2147483647 := by
  unfold vw
  rw [Bool.and_eq_true, decide_eq_true_eq, decide_eq_true_eq]
theorem wrap_nat (z : BitVec 64) : IntKind.i64.wrap (z.toNat : Int) = z.toInt := by
  rw [IntKind.wrap_i64, BitVec.toInt_eq_toNat_cond]
  have := z.isLt
  split <;> omega
theorem word_sext {a : Int} (h : vw a = true) : BitVec.ofInt 64 a = (BitVec.ofInt 32 a).signExtend 64 := by
  have h := vw_iff.1 h
  apply BitVec.eq_of_toInt_eq
  rw [BitVec.toInt_signExtend_of_le (by omega), BitVec.toInt_ofInt, BitVec.toInt_ofInt]
  have e1 : a.bmod (2 ^ 64) = a := Int.bmod_eq_of_le (by omega) (by omega)
  have e2 : a.bmod (2 ^ 32) = a := Int.bmod_eq_of_le (by omega) (by omega)
  rw [e1, e2]
theorem vw_sext (z : BitVec 32) : vw ((z.signExtend 64).toInt) = true := by
  rw [BitVec.toInt_signExtend_of_le (by omega), vw_iff]
  have h1 := BitVec.toInt_lt (x := z)
  have h2 := BitVec.le_toInt (x := z)
  omega
theorem or_word {a b : Int} (ha : vw a = true) (hb : vw b = true) : vw (Go.bits .or .i64 a b) = true := by
  show vw (IntKind.i64.wrap ((BitVec.ofInt 64 a ||| BitVec.ofInt 64 b).toNat : Int)) = true
  rw [wrap_nat, word_sext ha, word_sext hb, ← BitVec.signExtend_or]
  exact vw_sext _
theorem xor_word {a b : Int} (ha : vw a = true) (hb : vw b = true) : vw (Go.bits .xor .i64 a b) = true := by
  show vw (IntKind.i64.wrap ((BitVec.ofInt 64 a ^^^ BitVec.ofInt 64 b).toNat : Int)) = true
  rw [wrap_nat, word_sext ha, word_sext hb, ← BitVec.signExtend_xor]
  exact vw_sext _
theorem and_word {a b : Int} (ha : vw a = true) (hb : vw b = true) : vw (Go.bits .and .i64 a b) = true := by
  show vw (IntKind.i64.wrap ((BitVec.ofInt 64 a &&& BitVec.ofInt 64 b).toNat : Int)) = true
  rw [wrap_nat, word_sext ha, word_sext hb, ← BitVec.signExtend_and]
  exact vw_sext _
theorem or_swap (a b : Int) : Go.bits .or .i64 a b = Go.bits .or .i64 b a := by
  simp only [Go.bits]
  rw [BitVec.or_comm]
theorem xor_swap (a b : Int) : Go.bits .xor .i64 a b = Go.bits .xor .i64 b a := by
  simp only [Go.bits]
  rw [BitVec.xor_comm]
theorem and_swap (a b : Int) : Go.bits .and .i64 a b = Go.bits .and .i64 b a := by
  simp only [Go.bits]
  rw [BitVec.and_comm]
theorem and31 (b : Int) : 0 ≤ Go.bits .and .i64 b 31 ∧ Go.bits .and .i64 b 31 ≤ 31 := by
  simp only [Go.bits]
  rw [show IntKind.i64.bits = 64 from rfl, IntKind.wrap_i64, BitVec.toNat_and]
  have h : (BitVec.ofInt 64 b).toNat &&& (BitVec.ofInt 64 31).toNat ≤ (BitVec.ofInt 64 31).toNat := Nat.and_le_right
  have e : (BitVec.ofInt 64 31).toNat = 31 := by decide
  rw [e] at h ⊢
  omega
theorem w32_vw (a : Int) : vw (wrap32 a) = true := by
  rw [vw_iff]
  unfold wrap32
  omega
theorem w32_word {a : Int} (h : vw a = true) : wrap32 a = a := by
  have h := vw_iff.1 h
  unfold wrap32
  omega
theorem w32_w64 (a : Int) : wrap32 (wrap64 a) = wrap32 a := by
  unfold wrap32 wrap64
  omega
theorem w64_w32 (a : Int) : wrap64 (wrap32 a) = wrap32 a := by
  unfold wrap32 wrap64
  omega
theorem tm_word {a b : Int} (h : vw a = true) : vw (Int.tmod a b) = true := by
  have h := vw_iff.1 h
  rw [vw_iff]
  have e : (Int.tmod a b).natAbs ≤ a.natAbs := by
    rw [Int.natAbs_tmod]
    exact Nat.mod_le _ _
  rcases Int.le_total 0 a with h0 | h0
  · have := Int.tmod_nonneg b h0
    omega
  · have : 0 ≤ Int.tmod (-a) b := Int.tmod_nonneg b (by omega)
    rw [Int.neg_tmod] at this
    omega
/-- The value of an operator. -/
def ap (op a b : Int) : Int :=
  if op = 1 then Go.bits .or .i64 a b else if op = 2 then Go.bits .xor .i64 a b else if op = 3 then Go.bits .and .i64 a b
  else if op = 4 then (if a = b then 1 else 0) else if op = 5 then (if a < b then 1 else 0)
  else if op = 6 then wrap32 (shl .i64 a (Go.bits .and .i64 b 31)) else if op = 7 then shr .i64 a (Go.bits .and .i64 b 31)
  else if op = 8 then wrap32 (a + b) else if op = 9 then wrap32 (a - b) else if op = 10 then wrap32 (a * b)
  else if op = 11 then (if b = 0 then -1 else wrap32 (Int.tdiv a b)) else if b = 0 then a else Int.tmod a b
theorem shr_word {a : Int} (s : Int) (h : vw a = true) : vw (shr .i64 a s) = true := by
  have h := vw_iff.1 h
  rw [vw_iff]
  unfold shr
  have hp : (1 : Int) ≤ 2 ^ min s.toNat IntKind.i64.bits := by
    have : 0 < (2 : Int) ^ min s.toNat IntKind.i64.bits := Int.pow_pos (by omega)
    omega
  generalize (2 : Int) ^ min s.toNat IntKind.i64.bits = p at hp
  constructor
  · rw [Int.le_ediv_iff_mul_le (by omega)]
    have : (-2147483648 : Int) * p ≤ -2147483648 * 1 := Int.mul_le_mul_of_nonpos_left (by omega) hp
    omega
  · have : a / p ≤ 2147483647 / p := Int.ediv_le_ediv (by omega) h.2
    have h2 : (2147483647 : Int) / p ≤ 2147483647 := Int.ediv_le_self _ (by omega)
    omega
theorem ite_vw {c : Prop} [Decidable c] {a b : Int} (ha : vw a = true) (hb : vw b = true) : vw (if c then a else b) = true := by
  split
  · exact ha
  · exact hb
theorem ap_word (op : Int) {a b : Int} (ha : vw a = true) (hb : vw b = true) : vw (ap op a b) = true :=
  ite_vw (or_word ha hb) (ite_vw (xor_word ha hb) (ite_vw (and_word ha hb) (ite_vw (ite_vw (by decide) (by decide)) (ite_vw (ite_vw (by decide) (by decide))
    (ite_vw (w32_vw _) (ite_vw (shr_word _ ha) (ite_vw (w32_vw _) (ite_vw (w32_vw _) (ite_vw (w32_vw _) (ite_vw (ite_vw (by decide) (w32_vw _)) (ite_vw ha (tm_word ha))))))))))))
theorem ap_swap {op : Int} (a b : Int) (h : 1 ≤ op ∧ op ≤ 4 ∨ op = 8 ∨ op = 10) : ap op a b = ap op b a := by
  have hc : op = 1 ∨ op = 2 ∨ op = 3 ∨ op = 4 ∨ op = 8 ∨ op = 10 := by omega
  rcases hc with rfl | rfl | rfl | rfl | rfl | rfl
  · exact or_swap a b
  · exact xor_swap a b
  · exact and_swap a b
  · simp only [ap]
    by_cases e : a = b
    · subst e
      rfl
    · simp [e, Ne.symm e]
  · simp [ap, Int.add_comm]
  · simp [ap, Int.mul_comm]
end Go.Proofs.Ytpcbfcaacilghaa.PA

/- Words and lists of words: what the small functions of the program and of the reference come to. -/
namespace Go.Proofs.Ytpcbfcaacilghaa.PA
open Go.RowKit Go.Proofs.YtpcbfcaacilghaaW.PrintWords Go.Proofs.Ytpcbfcaacilghaa.Core
theorem l6In_eq (a b c : Int) : spec_l6In.f a b c = some (decide (b ≤ a) && decide (a ≤ c)) := by
  unfold spec_l6In.f
  by_cases h : a ≥ b
  · rw [if_pos h, decide_eq_true h, Bool.true_and]
  · rw [if_neg h, decide_eq_false h, Bool.false_and]
theorem eqIntS_l0 (l m : List Int) (hl : l.length ≤ 1000000000) (hm : l.length = m.length) : ∀ (d j : Nat), j + d = l.length → EvP (fun k => laws_eqIntS.l0 k l m (j : Int)) (· = decide (l.drop j = m.drop j)) := by
  intro d
  induction d with
  | zero =>
    intro j hj
    refine EvP.step (fun k => laws_eqIntS.l0.eq_2 (k := k) ..) (EvP.no (by omega) (EvP.ret ?_))
    rw [List.drop_eq_nil_of_le (by omega), List.drop_eq_nil_of_le (by omega)]
    rfl
  | succ d ih =>
    intro j hj
    have hlt : j < l.length := by omega
    have hlm : j < m.length := by omega
    refine EvP.step (fun k => laws_eqIntS.l0.eq_2 (k := k) ..) (EvP.yes (by omega) (EvP.yes (by omega) (EvP.yes (by omega) ?_)))
    rw [rd_nat l j hlt, rd_nat m j hlm, List.drop_eq_getElem_cons hlt, List.drop_eq_getElem_cons hlm]
    refine EvP.ite (fun h => ?_) (fun h => EvP.ret ?_)
    · rw [h, w64 (by omega) (by omega)]
      refine (ih (j + 1) (by omega)).mono fun a ha => ?_
      rw [ha]
      exact decide_eq_decide.mpr ⟨fun e => by rw [e], fun e => (List.cons.inj e).2⟩
    · exact (decide_eq_false (fun e => h (List.cons.inj e).1)).symm
theorem eqIntS_ev (l m : List Int) (hl : l.length ≤ 1000000000) : EvP (fun k => laws_eqIntS.f k l m) (· = decide (l = m)) := by
  unfold laws_eqIntS.f
  refine EvP.ite (fun h => ?_) (fun h => EvP.ret ?_)
  · exact eqIntS_l0 l m hl (by omega) l.length 0 (by omega)
  · rw [decide_eq_false]
    rintro rfl
    exact h rfl
/-- What 'mark' leaves: counted on from k. -/
def marked : Nat → Int → List Int
  | 0, _ => []
  | n + 1, k => k :: marked n (k + 1)
theorem marked_length : ∀ n k, (marked n k).length = n
  | 0, _ => rfl
  | n + 1, k => by rw [marked, List.length_cons, marked_length n]
theorem toIntS_l0 (l : List Int) (hl : l.length ≤ 1000000000) : ∀ (d j : Nat) (m : List Int), m.length = l.length → j + d = l.length → EvP (fun k => laws_toIntS.l0 k l m (j : Int)) (· = m.take j ++ l.drop j) := by
  intro d
  induction d with
  | zero =>
    intro j m hm hj
    refine EvP.step (fun k => laws_toIntS.l0.eq_2 (k := k) ..) (EvP.no (by omega) (EvP.ret ?_))
    rw [List.take_of_length_le (by omega), List.drop_eq_nil_of_le (by omega), List.append_nil]
  | succ d ih =>
    intro j m hm hj
    have hlt : j < l.length := by omega
    refine EvP.step (fun k => laws_toIntS.l0.eq_2 (k := k) ..) (EvP.yes (by omega) (EvP.yes (by omega) (EvP.yes (by omega) ?_)))
    rw [w64 (by omega) (by omega), Int.toNat_natCast, rd_nat l j hlt]
    refine (ih (j + 1) (m.set j l[j]) (by rw [List.length_set]; exact hm) (by omega)).mono fun a ha => ?_
    rw [ha, List.take_succ_eq_append_getElem (by rw [List.length_set]; omega), List.getElem_set_self, List.take_set_of_le (by omega), List.append_assoc, List.drop_eq_getElem_cons hlt]
    rfl
theorem toIntS_ev (l : List Int) (hl : l.length ≤ 1000000000) : EvP (fun k => laws_toIntS.f k l) (· = l) := by
  unfold laws_toIntS.f
  refine EvP.yes (by omega) (EvP.yes (by omega) ?_)
  exact toIntS_l0 l hl l.length 0 _ (by rw [List.length_replicate]; omega) (by omega)
theorem szIntS_eq (l : List Int) (n : Int) (h1 : 0 ≤ n) (h2 : n ≤ 9223372036854775807) (hl : l.length ≤ 9223372036854775807) : laws_szIntS.f l n = some (if n - l.length < 0 then -1 else n - l.length) := by
  unfold laws_szIntS.f
  rw [w64 (by omega) (by omega)]
  by_cases h : n - (l.length : Int) < 0
  · rw [if_pos h, if_pos h]
  · rw [if_neg h, if_neg h]
end Go.Proofs.Ytpcbfcaacilghaa.PA

/- Expressions as trees: plain definitions and laws, no program in sight. -/
namespace Go.Proofs.Ytpcbfcaacilghaa.PA
open Go.RowKit Go.Proofs.Ytpcbfcaacilghaa.Core
inductive X where
  | num (n : Int)
  | var (v : Int)
  | bin (op : Int) (a b : X)
namespace X
def ok : X → Prop
  | num n => 0 ≤ n ∧ n ≤ 99999
  | var v => 0 ≤ v ∧ v < 4
  | bin op a b => (1 ≤ op ∧ op ≤ 12) ∧ a.ok ∧ b.ok
def depth : X → Nat
  | num _ => 1
  | var _ => 1
  | bin _ a b => max a.depth b.depth + 1
def size : X → Nat
  | num _ => 1
  | var _ => 1
  | bin _ a b => a.size + b.size + 1
def eval (g : Int → Int) : X → Int
  | num n => n
  | var v => g v
  | bin op a b => ap op (a.eval g) (b.eval g)
def uses (v : Int) : X → Bool
  | num _ => false
  | var u => decide (u = v)
  | bin _ a b => a.uses v || b.uses v
/-- An operation over two simplified ones. -/
def foldB (op : Int) : X → X → X
  | num m, num n => if 0 ≤ ap op m n ∧ ap op m n ≤ 99999 then num (ap op m n) else bin op (num m) (num n)
  | a, b => bin op a b
def fold : X → X
  | num n => num n
  | var v => var v
  | bin op a b => foldB op a.fold b.fold
def isNum : X → Bool
  | num _ => true
  | _ => false
theorem one_le_depth : ∀ x : X, 1 ≤ x.depth
  | num _ | var _ => Nat.le_refl _
  | bin _ _ _ => Nat.le_add_left _ _
theorem one_le_size : ∀ x : X, 1 ≤ x.size
  | num _ | var _ => Nat.le_refl _
  | bin _ _ _ => Nat.le_add_left _ _
theorem size_depth : ∀ x : X, x.size + 1 ≤ 2 ^ x.depth
  | num _ | var _ => by simp [size, depth]
  | bin _ a b => by
    have ha := size_depth a
    have hb := size_depth b
    have h1 : 2 ^ a.depth ≤ 2 ^ max a.depth b.depth := Nat.pow_le_pow_right (by omega) (Nat.le_max_left _ _)
    have h2 : 2 ^ b.depth ≤ 2 ^ max a.depth b.depth := Nat.pow_le_pow_right (by omega) (Nat.le_max_right _ _)
    simp only [size, depth, Nat.pow_succ]
    omega
theorem eval_word {g : Int → Int} (hg : ∀ v, 0 ≤ v → v < 4 → vw (g v) = true) : ∀ x : X, x.ok → vw (x.eval g) = true
  | num n, h => by
    have h : 0 ≤ n ∧ n ≤ 99999 := h
    simp only [eval]
    rw [vw_iff]
    omega
  | var v, h => hg v h.1 h.2
  | bin op a b, h => ap_word op (eval_word hg a h.2.1) (eval_word hg b h.2.2)
theorem foldB_ok {op : Int} (ho : 1 ≤ op ∧ op ≤ 12) : ∀ {a b : X}, a.ok → b.ok → (foldB op a b).ok := by
  intro a b ha hb
  unfold foldB
  split
  · split
    · assumption
    · exact ⟨ho, ha, hb⟩
  · exact ⟨ho, ha, hb⟩
theorem fold_ok : ∀ x : X, x.ok → x.fold.ok
  | num _, h => h
  | var _, h => h
  | bin _ a b, h => foldB_ok h.1 (fold_ok a h.2.1) (fold_ok b h.2.2)
theorem foldB_depth (op : Int) (a b : X) : (foldB op a b).depth ≤ max a.depth b.depth + 1 := by
  unfold foldB
  split
  · split
    · simp [depth]
    · exact Nat.le_refl _
  · exact Nat.le_refl _
theorem fold_depth : ∀ x : X, x.fold.depth ≤ x.depth
  | num _ => Nat.le_refl _
  | var _ => Nat.le_refl _
  | bin op a b => by
    have ha := fold_depth a
    have hb := fold_depth b
    have h := foldB_depth op a.fold b.fold
    simp only [fold, depth]
    omega
theorem foldB_size (op : Int) (a b : X) : (foldB op a b).size ≤ a.size + b.size + 1 := by
  unfold foldB
  split
  · split
    · simp [size]
    · exact Nat.le_refl _
  · exact Nat.le_refl _
theorem fold_size : ∀ x : X, x.fold.size ≤ x.size
  | num _ => Nat.le_refl _
  | var _ => Nat.le_refl _
  | bin op a b => by
    have ha := fold_size a
    have hb := fold_size b
    have h := foldB_size op a.fold b.fold
    simp only [fold, size]
    omega
theorem foldB_eval (g : Int → Int) (op : Int) (a b : X) : (foldB op a b).eval g = ap op (a.eval g) (b.eval g) := by
  unfold foldB
  split
  · split
    · rfl
    · rfl
  · rfl
theorem fold_eval (g : Int → Int) : ∀ x : X, x.fold.eval g = x.eval g
  | num _ => rfl
  | var _ => rfl
  | bin op a b => by rw [fold, foldB_eval, fold_eval g a, fold_eval g b, eval]
theorem foldB_of {op : Int} {a b : X} (h : ∀ m n, a = num m → b = num n → ¬ (0 ≤ ap op m n ∧ ap op m n ≤ 99999)) : foldB op a b = bin op a b := by
  unfold foldB
  split
  · rw [if_neg (h _ _ rfl rfl)]
  · rfl
theorem foldB_stay (op : Int) (a b : X) : (foldB op a b = bin op a b) ∨ ∃ m, foldB op a b = num m := by
  unfold foldB
  split
  · split
    · exact .inr ⟨_, rfl⟩
    · exact .inl rfl
  · exact .inl rfl
theorem foldB_again (op : Int) (a b : X) (ha : a.fold = a) (hb : b.fold = b) : (foldB op a b).fold = foldB op a b := by
  rcases foldB_stay op a b with h | ⟨m, h⟩
  · rw [h, fold, ha, hb, h]
  · rw [h]
    rfl
theorem fold_again : ∀ x : X, x.fold.fold = x.fold
  | num _ => rfl
  | var _ => rfl
  | bin op a b => foldB_again op _ _ (fold_again a) (fold_again b)
theorem eval_other {g h : Int → Int} {u : Int} (hg : ∀ v, v ≠ u → g v = h v) : ∀ x : X, x.uses u = false → x.eval g = x.eval h
  | num _, _ => rfl
  | var v, hu => hg v (by simpa [uses] using hu)
  | bin op a b, hu => by
    simp only [uses, Bool.or_eq_false_iff] at hu
    rw [eval, eval, eval_other hg a hu.1, eval_other hg b hu.2]
theorem eval_other' {g h : Int → Int} {u : Int} (hg : ∀ v, 0 ≤ v → v < 4 → v ≠ u → g v = h v) : ∀ x : X, x.ok → x.uses u = false → x.eval g = x.eval h
  | num _, _, _ => rfl
  | var v, ho, hu => hg v ho.1 ho.2 (by simpa [uses] using hu)
  | bin op a b, ho, hu => by
    simp only [uses, Bool.or_eq_false_iff] at hu
    rw [eval, eval, eval_other' hg a ho.2.1 hu.1, eval_other' hg b ho.2.2 hu.2]
end X
end Go.Proofs.Ytpcbfcaacilghaa.PA

/- Expressions: what the functions of the program and of the reference come to, on valid expressions as trees. -/
namespace Go.Proofs.Ytpcbfcaacilghaa.PA
open Go.RowKit Go.Proofs.YtpcbfcaacilghaaW.PrintWords Go.Proofs.YtpcbfcaacilghaaW.PrintMore Go.Proofs.Ytpcbfcaacilghaa.Core
/-- A tree, as the program holds it. -/
def emb : X → S34
  | .num n => ⟨0, n, []⟩
  | .var v => ⟨13, v, []⟩
  | .bin op a b => ⟨op, 0, [emb a, emb b]⟩
theorem rdE_nat (l : List S34) (i : Nat) (h : i < l.length) : rd_T34 l (i : Int) = l[i] := by
  unfold rd_T34
  rw [Int.toNat_natCast, List.getD_eq_getElem?_getD, List.getElem?_eq_getElem h]
  rfl
theorem rdE_0 (a b : S34) : rd_T34 [a, b] 0 = a := rfl
theorem rdE_1 (a b : S34) : rd_T34 [a, b] 1 = b := rfl
theorem etaE (a : S34) : (⟨a.f0, a.f1, a.f2⟩ : S34) = a := by
  cases a
  rfl
/-- Is it valid with at most so much depth? -/
def vx : Nat → Int → Int → List S34 → Bool
  | 0, _, _, _ => false
  | d + 1, op, n, l =>
    if op = 0 then decide (0 ≤ n) && (decide (n ≤ 99999) && decide (l.length = 0))
    else if op = 13 then decide (0 ≤ n) && (decide (n < 4) && decide (l.length = 0))
    else decide (1 ≤ op) && (decide (op ≤ 12) && (decide (n = 0) && (match l with
      | [a, b] => vx d a.f0 a.f1 a.f2 && vx d b.f0 b.f1 b.f2
      | _ => false)))
theorem two_of {α : Type} {l : List α} (h : l.length = 2) : ∃ a b, l = [a, b] := by
  match l, h with
  | [a, b], _ => exact ⟨a, b, rfl⟩
theorem vx_tree : ∀ (d : Nat) (op n : Int) (l : List S34), vx d op n l = true → ∃ x : X, x.ok ∧ x.depth ≤ d ∧ emb x = ⟨op, n, l⟩
  | 0, _, _, _, h => by cases h
  | d + 1, op, n, l, h => by
    unfold vx at h
    by_cases h0 : op = 0
    · rw [if_pos h0] at h
      simp only [Bool.and_eq_true, decide_eq_true_eq] at h
      subst h0
      exact ⟨.num n, ⟨h.1, h.2.1⟩, by simp [X.depth], by rw [emb, List.eq_nil_of_length_eq_zero h.2.2]⟩
    · rw [if_neg h0] at h
      by_cases h13 : op = 13
      · rw [if_pos h13] at h
        simp only [Bool.and_eq_true, decide_eq_true_eq] at h
        subst h13
        exact ⟨.var n, ⟨h.1, h.2.1⟩, by simp [X.depth], by rw [emb, List.eq_nil_of_length_eq_zero h.2.2]⟩
      · rw [if_neg h13] at h
        simp only [Bool.and_eq_true, decide_eq_true_eq] at h
        obtain ⟨h1, h2, h3, h4⟩ := h
        split at h4
        · rename_i a b
          simp only [Bool.and_eq_true] at h4
          obtain ⟨x, x1, x2, x3⟩ := vx_tree d a.f0 a.f1 a.f2 h4.1
          obtain ⟨y, y1, y2, y3⟩ := vx_tree d b.f0 b.f1 b.f2 h4.2
          exact ⟨.bin op x y, ⟨⟨h1, h2⟩, x1, y1⟩, by simp only [X.depth]; omega, by rw [emb, x3, y3, h3, etaE, etaE]⟩
        · cases h4
theorem vx_emb : ∀ (x : X) (d : Nat), x.ok → (vx d (emb x).f0 (emb x).f1 (emb x).f2 = decide (x.depth ≤ d))
  | x, 0, _ => by
    have := X.one_le_depth x
    rw [decide_eq_false (by omega)]
    rfl
  | .num n, d + 1, h => by
    have h : 0 ≤ n ∧ n ≤ 99999 := h
    simp [vx, emb, X.depth, h.1, h.2]
  | .var v, d + 1, h => by
    have h : 0 ≤ v ∧ v < 4 := h
    simp [vx, emb, X.depth, h.1, h.2]
  | .bin op a b, d + 1, h => by
    have h1 := h.1
    have ha := vx_emb a d h.2.1
    have hb := vx_emb b d h.2.2
    have e0 : ¬ (op = 0) := by omega
    have e13 : ¬ (op = 13) := by omega
    have e : (X.bin op a b).depth = max a.depth b.depth + 1 := rfl
    show (if op = 0 then _ else if op = 13 then _ else decide (1 ≤ op) && (decide (op ≤ 12) && (true && (vx d (emb a).f0 (emb a).f1 (emb a).f2 && vx d (emb b).f0 (emb b).f1 (emb b).f2)))) = _
    rw [if_neg e0, if_neg e13, decide_eq_true h1.1, decide_eq_true h1.2, ha, hb, e, Bool.true_and, Bool.true_and, Bool.true_and, Bool.eq_iff_iff]
    simp only [Bool.and_eq_true, decide_eq_true_eq]
    omega
theorem impl_OpValid_eq (a : Int) : impl_OpValid.f a = some (decide (1 ≤ a) && decide (a ≤ 12)) := by
  unfold impl_OpValid.f
  by_cases h : a ≥ 1
  · rw [if_pos h, decide_eq_true h, Bool.true_and]
  · rw [if_neg h, decide_eq_false h, Bool.false_and]
theorem spec_OpValid_eq (a : Int) : spec_OpValid.f a = some (decide (1 ≤ a) && decide (a ≤ 12)) := by
  unfold spec_OpValid.f
  rw [l6In_eq]
  rfl
theorem impl_exprValid_ev : ∀ (d : Nat) (op n : Int) (l : List S34), d ≤ 1000 → EvP (fun k => impl_exprValid.f k op n l (d : Int)) (· = vx d op n l)
  | 0, op, n, l, hd => by
    refine EvP.step (fun k => impl_exprValid.f.eq_2 (k := k) ..) ?_
    refine EvP.ite (fun h => ?_) (fun h => ?_)
    · refine EvP.ite (fun _ => EvP.ite (fun _ => EvP.ite (fun _ => EvP.ret ?_) (fun _ => EvP.ret ?_)) (fun _ => EvP.ret ?_)) (fun _ => EvP.ret ?_) <;> simp [vx]
    · refine EvP.ite (fun h => ?_) (fun h => ?_)
      · refine EvP.ite (fun _ => EvP.ite (fun _ => EvP.ite (fun _ => EvP.ret ?_) (fun _ => EvP.ret ?_)) (fun _ => EvP.ret ?_)) (fun _ => EvP.ret ?_) <;> simp [vx]
      · refine EvP.bind0 (impl_OpValid_eq op) (EvP.ite (fun _ => EvP.ite (fun _ => EvP.ite (fun _ => EvP.no (by omega) (EvP.ret ?_)) (fun _ => EvP.ret ?_)) (fun _ => EvP.ret ?_)) (fun _ => EvP.ret ?_)) <;> simp [vx]
  | d + 1, op, n, l, hd => by
    refine EvP.step (fun k => impl_exprValid.f.eq_2 (k := k) ..) ?_
    unfold vx
    refine EvP.ite (fun h => ?_) (fun h => ?_)
    · rw [if_pos h]
      refine EvP.ite (fun h1 => EvP.ite (fun h2 => EvP.ite (fun h3 => EvP.ret ?_) (fun h3 => EvP.ret ?_)) (fun h2 => EvP.ret ?_)) (fun h1 => EvP.ret ?_)
      · rw [decide_eq_true (show 0 ≤ n from h1), decide_eq_true h2, decide_eq_true (show l.length = 0 by omega)]
        simp
      · rw [decide_eq_false (p := l.length = 0) (by omega)]
        simp
      · rw [decide_eq_false h2]
        simp
      · rw [decide_eq_false (p := 0 ≤ n) h1]
        simp
    · rw [if_neg h]
      refine EvP.ite (fun h => ?_) (fun h13 => ?_)
      · rw [if_pos h]
        refine EvP.ite (fun h1 => EvP.ite (fun h2 => EvP.ite (fun h3 => EvP.ret ?_) (fun h3 => EvP.ret ?_)) (fun h2 => EvP.ret ?_)) (fun h1 => EvP.ret ?_)
        · rw [decide_eq_true (show 0 ≤ n from h1), decide_eq_true h2, decide_eq_true (show l.length = 0 by omega)]
          simp
        · rw [decide_eq_false (p := l.length = 0) (by omega)]
          simp
        · rw [decide_eq_false h2]
          simp
        · rw [decide_eq_false (p := 0 ≤ n) h1]
          simp
      · rw [if_neg h13]
        refine EvP.bind0 (impl_OpValid_eq op) (EvP.ite (fun h1 => ?_) (fun h1 => EvP.ret ?_))
        · simp only [Bool.and_eq_true, decide_eq_true_eq] at h1
          rw [decide_eq_true h1.1, decide_eq_true h1.2]
          refine EvP.ite (fun h2 => ?_) (fun h2 => EvP.ret (by rw [decide_eq_false h2]; rfl))
          rw [decide_eq_true h2]
          refine EvP.ite (fun h3 => ?_) (fun h3 => EvP.ret ?_)
          · obtain ⟨a, b, rfl⟩ := two_of (show l.length = 2 by omega)
            refine EvP.ite (fun h4 => ?_) (fun h4 => EvP.ret ?_)
            · rw [w64 (by omega) (by omega), show ((d + 1 : Nat) : Int) - 1 = (d : Int) by omega, rdE_0, rdE_1]
              refine EvP.yes (by simp) (EvP.bindEq (impl_exprValid_ev d _ _ _ (by omega)) (EvP.ite (fun h5 => ?_) (fun h5 => EvP.ret ?_)))
              · refine EvP.yes (by simp) (EvP.bindEq (impl_exprValid_ev d _ _ _ (by omega)) (EvP.ret ?_))
                simp [h5]
              · simp [h5]
            · have hd0 : d = 0 := by omega
              subst hd0
              rfl
          · split
            · simp at h3
            · rfl
        · symm
          rw [Bool.eq_false_iff]
          intro e
          simp only [Bool.and_eq_true, decide_eq_true_eq] at e h1
          exact h1 ⟨e.1, e.2.1⟩
theorem spec_l4Ok_ev : ∀ (d : Nat) (op n : Int) (l : List S34), d ≤ 1000 → EvP (fun k => spec_l4Ok.f k op n l (d : Int)) (· = vx d op n l)
  | 0, op, n, l, hd => EvP.step (fun k => spec_l4Ok.f.eq_2 (k := k) ..) (EvP.yes (by omega) (EvP.ret rfl))
  | d + 1, op, n, l, hd => by
    have hlen : ((l.length : Int) == 0) = decide (l.length = 0) := by
      rw [Bool.eq_iff_iff, beq_iff_eq, decide_eq_true_eq]
      omega
    refine EvP.step (fun k => spec_l4Ok.f.eq_2 (k := k) ..) (EvP.no (by omega) ?_)
    unfold vx
    refine EvP.ite (fun h => ?_) (fun h => ?_)
    · rw [if_pos h, l6In_eq]
      refine EvP.bind0 rfl (EvP.ite (fun h1 => EvP.ret ?_) (fun h1 => EvP.ret ?_))
      · rw [hlen]
        simp only [Bool.and_eq_true, decide_eq_true_eq] at h1
        rw [decide_eq_true h1.1, decide_eq_true h1.2]
        rfl
      · rw [← Bool.and_assoc, Bool.eq_false_iff.mpr h1]
        rfl
    · rw [if_neg h]
      refine EvP.ite (fun h => ?_) (fun h13 => ?_)
      · rw [if_pos h, l6In_eq]
        have e3 : decide (n < 4) = decide (n ≤ 3) := decide_eq_decide.mpr (by omega)
        rw [e3]
        refine EvP.bind0 rfl (EvP.ite (fun h1 => EvP.ret ?_) (fun h1 => EvP.ret ?_))
        · rw [hlen]
          simp only [Bool.and_eq_true, decide_eq_true_eq] at h1
          rw [decide_eq_true h1.1, decide_eq_true h1.2]
          rfl
        · rw [← Bool.and_assoc, Bool.eq_false_iff.mpr h1]
          rfl
      · rw [if_neg h13]
        refine EvP.bind0 (spec_OpValid_eq op) (EvP.ite (fun h1 => ?_) (fun h1 => EvP.ret ?_))
        · simp only [Bool.and_eq_true, decide_eq_true_eq] at h1
          rw [decide_eq_true h1.1, decide_eq_true h1.2]
          refine EvP.ite (fun h2 => ?_) (fun h2 => EvP.ret (by rw [decide_eq_false h2]; rfl))
          rw [decide_eq_true h2]
          refine EvP.ite (fun h3 => ?_) (fun h3 => EvP.ret ?_)
          · obtain ⟨a, b, rfl⟩ := two_of (show l.length = 2 by omega)
            rw [w64 (by omega) (by omega), show ((d + 1 : Nat) : Int) - 1 = (d : Int) by omega, rdE_0, rdE_1]
            refine EvP.yes (by simp) (EvP.bindEq (spec_l4Ok_ev d _ _ _ (by omega)) (EvP.ite (fun h5 => ?_) (fun h5 => EvP.ret ?_)))
            · refine EvP.yes (by simp) (EvP.bindEq (spec_l4Ok_ev d _ _ _ (by omega)) (EvP.ret ?_))
              simp [h5]
            · simp [h5]
          · split
            · simp at h3
            · rfl
        · rw [← Bool.and_assoc, Bool.eq_false_iff.mpr h1]
          rfl
theorem spec_ExprValid_ev (op n : Int) (l : List S34) : EvP (fun k => spec_ExprValid.f k op n l) (· = vx 5 op n l) := by
  unfold spec_ExprValid.f
  exact EvP.bindEq (spec_l4Ok_ev 5 op n l (by omega)) (EvP.ret rfl)
theorem impl_ExprValid_ev (op n : Int) (l : List S34) : EvP (fun k => impl_ExprValid.f k op n l) (· = vx 5 op n l) := by
  unfold impl_ExprValid.f
  exact EvP.bindEq (impl_exprValid_ev 5 op n l (by omega)) (EvP.ret rfl)
end Go.Proofs.Ytpcbfcaacilghaa.PA

/- Expressions: values, depths, sizes, simplifying, on valid expressions as trees. -/
namespace Go.Proofs.Ytpcbfcaacilghaa.PA
open Go.RowKit Go.Proofs.YtpcbfcaacilghaaW.PrintWords Go.Proofs.YtpcbfcaacilghaaW.PrintMore Go.Proofs.Ytpcbfcaacilghaa.Core
def tri (e : S34) : Int × Int × List S34 := (e.f0, e.f1, e.f2)
/-- Are these the values of the variables? -/
def vars4 (vs : List Int) : Bool := decide (vs.length = 4) && vs.all vw
theorem vars4_iff {vs : List Int} : vars4 vs = true ↔ vs.length = 4 ∧ vs.all vw = true := by
  unfold vars4
  simp only [Bool.and_eq_true, decide_eq_true_eq]
theorem vars4_words {vs : List Int} (h : vars4 vs = true) : ∀ v, 0 ≤ v → v < 4 → vw (rd vs v) = true := by
  intro v h0 h4
  obtain ⟨h1, h2⟩ := vars4_iff.1 h
  exact List.all_eq_true.1 h2 _ (rd_mem vs v h0 (by omega))
end Go.Proofs.Ytpcbfcaacilghaa.PA

/- The exact comparison's words on expressions: counting, copying, comparing. -/
namespace Go.Proofs.Ytpcbfcaacilghaa.PA
open Go.RowKit Go.Proofs.YtpcbfcaacilghaaW.PrintWords Go.Proofs.YtpcbfcaacilghaaW.PrintMore Go.Proofs.Ytpcbfcaacilghaa.Core
mutual
def trE : S87 → S34
  | ⟨a, b, l⟩ => ⟨a, b, trEs l⟩
def trEs : List S87 → List S34
  | [] => []
  | x :: xs => trE x :: trEs xs
end
mutual
def cntE : S87 → Nat
  | ⟨_, _, l⟩ => cntEs l
def cntEs : List S87 → Nat
  | [] => 0
  | x :: xs => cntE x + 1 + cntEs xs
end
theorem etaLE (a : S87) : (⟨a.f0, a.f1, a.f2⟩ : S87) = a := by
  cases a
  rfl
theorem trE_f (x : S87) : trE x = ⟨x.f0, x.f1, trEs x.f2⟩ := by
  cases x
  rw [trE]
theorem cntE_f (x : S87) : cntE x = cntEs x.f2 := by
  cases x
  rw [cntE]
theorem trEs_length : ∀ l : List S87, (trEs l).length = l.length
  | [] => by rw [trEs]; rfl
  | x :: xs => by rw [trEs, List.length_cons, List.length_cons, trEs_length xs]
theorem trEs_get : ∀ (l : List S87) (i : Nat) (h : i < l.length), (trEs l)[i]'(by rw [trEs_length]; exact h) = trE l[i]
  | x :: xs, 0, _ => by simp [trEs]
  | x :: xs, i + 1, h => by
    have h2 := trEs_get xs i (by simpa using h)
    simp only [trEs, List.getElem_cons_succ]
    exact h2
theorem cntEs_length : ∀ l : List S87, l.length ≤ cntEs l
  | [] => Nat.zero_le _
  | x :: xs => by
    have := cntEs_length xs
    rw [cntEs, List.length_cons]
    omega
theorem cntEs_mem : ∀ (l : List S87) (x : S87), x ∈ l → cntE x ≤ cntEs l
  | y :: ys, x, h => by
    rw [cntEs]
    rcases List.mem_cons.1 h with rfl | h
    · omega
    · have := cntEs_mem ys x h
      omega
theorem cntEs_drop (l : List S87) (i : Nat) (h : i < l.length) : cntEs (l.drop i) = cntE l[i] + 1 + cntEs (l.drop (i + 1)) := by
  rw [List.drop_eq_getElem_cons h, cntEs]
theorem cntEs_of_drop (l : List S87) : ∀ i, (cntEs (l.drop i)) ≤ cntEs l := by
  intro i
  induction i with
  | zero => exact Nat.le_refl _
  | succ i ih =>
    by_cases h : i < l.length
    · rw [cntEs_drop l i h] at ih
      omega
    · rw [List.drop_eq_nil_of_le (by omega)]
      exact Nat.zero_le _
theorem ind_LE {P : S87 → Prop} (h : ∀ e : S87, (∀ x ∈ e.f2, P x) → P e) (e : S87) : P e :=
  S87.rec (motive_1 := P) (motive_2 := fun l => ∀ x ∈ l, P x) (fun a b l ih => h ⟨a, b, l⟩ ih) (fun x hx => by simp at hx) (fun y ys h1 h2 x hx => by
    rcases List.mem_cons.1 hx with rfl | hx
    · exact h1
    · exact h2 x hx) e
theorem rdLE_nat (l : List S87) (i : Nat) (h : i < l.length) : rd_T87 l (i : Int) = l[i] := by
  unfold rd_T87
  rw [Int.toNat_natCast, List.getD_eq_getElem?_getD, List.getElem?_eq_getElem h]
  rfl
/-- What is left of a bound. -/
def lefts (c : Nat) (n : Int) : Int := if (c : Int) ≤ n then n - c else -1
theorem szExprS_l0 (l : List S87) (hl : l.length ≤ 1048576) (he : ∀ x ∈ l, ∀ n : Int, 0 ≤ n → n ≤ 1048576 → EvP (fun k => laws_szExpr.f k x.f0 x.f1 x.f2 n) (· = lefts (cntE x) n)) :
    ∀ (d j : Nat) (n : Int), j + d = l.length → 0 ≤ n → n ≤ 1048576 → EvP (fun k => laws_szExprS.l0 k l n (j : Int)) (· = lefts (cntEs (l.drop j) - d) n) := by
  intro d
  induction d with
  | zero =>
    intro j n hj h0 h1
    refine EvP.step (fun k => laws_szExprS.l0.eq_2 (k := k) ..) (EvP.no (by omega) (EvP.ret ?_))
    rw [List.drop_eq_nil_of_le (by omega)]
    unfold lefts
    rw [if_pos (by simp [cntEs]; omega)]
    simp [cntEs]
  | succ d ih =>
    intro j n hj h0 h1
    have hlt : j < l.length := by omega
    have hc := cntEs_drop l j hlt
    have hd : d ≤ cntEs (l.drop (j + 1)) := by
      have := cntEs_length (l.drop (j + 1))
      rw [List.length_drop] at this
      omega
    refine EvP.step (fun k => laws_szExprS.l0.eq_2 (k := k) ..) (EvP.yes (by omega) (EvP.yes (by omega) ?_))
    rw [rdLE_nat l j hlt, w64 (n := (j : Int) + 1) (by omega) (by omega)]
    refine EvP.bindEq (he _ (List.getElem_mem hlt) n h0 h1) ?_
    by_cases h2 : (cntE l[j] : Int) ≤ n
    · have e : lefts (cntE l[j]) n = n - cntE l[j] := if_pos h2
      rw [e]
      refine EvP.no (by omega) ?_
      refine (ih (j + 1) (n - cntE l[j]) (by omega) (by omega) (by omega)).mono fun a ha => ?_
      rw [ha]
      unfold lefts
      by_cases h3 : ((cntEs (l.drop (j + 1)) - d : Nat) : Int) ≤ n - cntE l[j]
      · rw [if_pos h3, if_pos (by omega)]
        omega
      · rw [if_neg h3, if_neg (by omega)]
    · have e : lefts (cntE l[j]) n = -1 := if_neg h2
      rw [e]
      refine EvP.yes (by omega) (EvP.ret ?_)
      unfold lefts
      rw [if_neg (by omega)]
theorem szExprS_of (l : List S87) (hl : l.length ≤ maxLen) (he : ∀ x ∈ l, ∀ n : Int, 0 ≤ n → n ≤ 1048576 → EvP (fun k => laws_szExpr.f k x.f0 x.f1 x.f2 n) (· = lefts (cntE x) n)) (n : Int) (h0 : 0 ≤ n) (h1 : n ≤ 1048576) :
    EvP (fun k => laws_szExprS.f k l n) (· = lefts (cntEs l) n) := by
  have hm : maxLen = 9223372036854775807 := rfl
  have hc := cntEs_length l
  refine EvP.step (fun k => laws_szExprS.f.eq_2 (k := k) ..) ?_
  rw [w64 (by omega) (by omega)]
  refine EvP.ite (fun h => EvP.ret ?_) (fun h => ?_)
  · unfold lefts
    rw [if_neg (by omega)]
  · refine (szExprS_l0 l (by omega) he l.length 0 (n - l.length) (by omega) (by omega) (by omega)).mono fun a ha => ?_
    rw [ha, List.drop_zero]
    unfold lefts
    by_cases h3 : ((cntEs l - l.length : Nat) : Int) ≤ n - l.length
    · rw [if_pos h3, if_pos (by omega)]
      omega
    · rw [if_neg h3, if_neg (by omega)]
theorem szExpr_ev (e : S87) : WF87 e → ∀ n : Int, 0 ≤ n → n ≤ 1048576 → EvP (fun k => laws_szExpr.f k e.f0 e.f1 e.f2 n) (· = lefts (cntE e) n) := by
  refine ind_LE (P := fun e => WF87 e → ∀ n : Int, 0 ≤ n → n ≤ 1048576 → EvP (fun k => laws_szExpr.f k e.f0 e.f1 e.f2 n) (· = lefts (cntE e) n)) (fun e ih hw n h0 h1 => ?_) e
  cases hw with
  | mk _ _ _ hl hx =>
    refine EvP.step (fun k => laws_szExpr.f.eq_2 (k := k) ..) ?_
    refine EvP.bindEq (szExprS_of e.f2 hl (fun x hm => ih x hm (hx x hm)) n h0 h1) ?_
    rw [cntE_f]
    refine EvP.ite (fun h => EvP.ret ?_) (fun h => EvP.ret rfl)
    unfold lefts at h ⊢
    by_cases h3 : (cntEs e.f2 : Int) ≤ n
    · rw [if_pos h3] at h
      omega
    · rw [if_neg h3]
theorem szExprS_ev (l : List S87) (hl : l.length ≤ maxLen) (hx : ∀ x ∈ l, WF87 x) (n : Int) (h0 : 0 ≤ n) (h1 : n ≤ 1048576) : EvP (fun k => laws_szExprS.f k l n) (· = lefts (cntEs l) n) :=
  szExprS_of l hl (fun x hm => szExpr_ev x (hx x hm)) n h0 h1
theorem toExprS_l0 (l : List S87) (hl : l.length ≤ 1048576) (he : ∀ x ∈ l, EvP (fun k => laws_toExpr.f k x.f0 x.f1 x.f2) (· = tri (trE x))) :
    ∀ (d j : Nat) (m : List S34), j + d = l.length → m.length = l.length → EvP (fun k => laws_toExprS.l0 k l m (j : Int)) (· = m.take j ++ trEs (l.drop j)) := by
  intro d
  induction d with
  | zero =>
    intro j m hj hm
    refine EvP.step (fun k => laws_toExprS.l0.eq_2 (k := k) ..) (EvP.no (by omega) (EvP.ret ?_))
    rw [List.drop_eq_nil_of_le (by omega), List.take_of_length_le (by omega)]
    simp [trEs]
  | succ d ih =>
    intro j m hj hm
    have hlt : j < l.length := by omega
    refine EvP.step (fun k => laws_toExprS.l0.eq_2 (k := k) ..) (EvP.yes (by omega) (EvP.yes (by omega) ?_))
    rw [rdLE_nat l j hlt, w64 (n := (j : Int) + 1) (by omega) (by omega), Int.toNat_natCast]
    refine EvP.bindEq (he _ (List.getElem_mem hlt)) (EvP.yes (by omega) ?_)
    simp only [tri, etaE]
    refine (ih (j + 1) (m.set j (trE l[j])) (by omega) (by rw [List.length_set]; exact hm)).mono fun a ha => ?_
    rw [ha, List.take_succ_eq_append_getElem (by rw [List.length_set]; omega), List.getElem_set_self, List.take_set_of_le (by omega), List.append_assoc, List.drop_eq_getElem_cons hlt, trEs]
    rfl
theorem toExprS_of (l : List S87) (hl : l.length ≤ 1048576) (he : ∀ x ∈ l, EvP (fun k => laws_toExpr.f k x.f0 x.f1 x.f2) (· = tri (trE x))) : EvP (fun k => laws_toExprS.f k l) (· = trEs l) := by
  refine EvP.step (fun k => laws_toExprS.f.eq_2 (k := k) ..) (EvP.yes (by omega) (EvP.yes (by omega) ?_))
  exact toExprS_l0 l hl he l.length 0 _ (by omega) (by rw [List.length_replicate]; omega)
theorem toExpr_ev (e : S87) : cntE e ≤ 1048576 → EvP (fun k => laws_toExpr.f k e.f0 e.f1 e.f2) (· = tri (trE e)) := by
  refine ind_LE (P := fun e => cntE e ≤ 1048576 → EvP (fun k => laws_toExpr.f k e.f0 e.f1 e.f2) (· = tri (trE e))) (fun e ih hc => ?_) e
  rw [cntE_f] at hc
  have hl := cntEs_length e.f2
  refine EvP.step (fun k => laws_toExpr.f.eq_2 (k := k) ..) ?_
  refine EvP.bindEq (toExprS_of e.f2 (by omega) (fun x hm => ih x hm (by have := cntEs_mem e.f2 x hm; omega))) (EvP.ret ?_)
  rw [trE_f]
  rfl
theorem toExprS_ev (l : List S87) (hc : cntEs l ≤ 1048576) : EvP (fun k => laws_toExprS.f k l) (· = trEs l) :=
  toExprS_of l (by have := cntEs_length l; omega) (fun x hm => toExpr_ev x (by have := cntEs_mem l x hm; omega))
theorem eqExprS_l0 (m : List S34) (hl : m.length ≤ 1048576) (he : ∀ x ∈ m, EvP (fun k => laws_eqExpr.f k x.f0 x.f1 x.f2 x.f0 x.f1 x.f2) (· = true)) :
    ∀ (d j : Nat), j + d = m.length → EvP (fun k => laws_eqExprS.l0 k m m (j : Int)) (· = true) := by
  intro d
  induction d with
  | zero =>
    intro j hj
    exact EvP.step (fun k => laws_eqExprS.l0.eq_2 (k := k) ..) (EvP.no (by omega) (EvP.ret rfl))
  | succ d ih =>
    intro j hj
    have hlt : j < m.length := by omega
    refine EvP.step (fun k => laws_eqExprS.l0.eq_2 (k := k) ..) (EvP.yes (by omega) (EvP.yes (by omega) (EvP.yes (by omega) ?_)))
    rw [rdE_nat m j hlt, w64 (n := (j : Int) + 1) (by omega) (by omega)]
    exact EvP.bindEq (he _ (List.getElem_mem hlt)) (EvP.yes rfl (ih (j + 1) (by omega)))
theorem eqExprS_of (m : List S34) (hl : m.length ≤ 1048576) (he : ∀ x ∈ m, EvP (fun k => laws_eqExpr.f k x.f0 x.f1 x.f2 x.f0 x.f1 x.f2) (· = true)) : EvP (fun k => laws_eqExprS.f k m m) (· = true) :=
  EvP.step (fun k => laws_eqExprS.f.eq_2 (k := k) ..) (EvP.yes rfl (eqExprS_l0 m hl he m.length 0 (by omega)))
/-- Short lists, all the way down. -/
inductive Short : S34 → Prop
  | mk (x : S34) (h : x.f2.length ≤ 1048576) (g : ∀ y ∈ x.f2, Short y) : Short x
theorem eqExpr_short (e : S34) (h : Short e) : EvP (fun k => laws_eqExpr.f k e.f0 e.f1 e.f2 e.f0 e.f1 e.f2) (· = true) := by
  induction h with
  | mk x h g ih =>
    refine EvP.step (fun k => laws_eqExpr.f.eq_2 (k := k) ..) (EvP.yes rfl (EvP.yes rfl ?_))
    exact EvP.bindEq (eqExprS_of x.f2 h ih) (EvP.yes rfl (EvP.ret rfl))
theorem trEs_mem {l : List S87} {y : S34} (h : y ∈ trEs l) : ∃ x ∈ l, y = trE x := by
  induction l with
  | nil => simp [trEs] at h
  | cons a l ih =>
    rw [trEs] at h
    rcases List.mem_cons.1 h with rfl | h
    · exact ⟨a, List.mem_cons_self, rfl⟩
    · obtain ⟨x, hx, e⟩ := ih h
      exact ⟨x, List.mem_cons_of_mem _ hx, e⟩
theorem short_trE (e : S87) : cntE e ≤ 1048576 → Short (trE e) := by
  refine ind_LE (P := fun e => cntE e ≤ 1048576 → Short (trE e)) (fun e ih hc => ?_) e
  rw [cntE_f] at hc
  have hl := cntEs_length e.f2
  rw [trE_f]
  refine .mk _ (by rw [trEs_length]; omega) fun y hy => ?_
  obtain ⟨x, hx, rfl⟩ := trEs_mem hy
  exact ih x hx (by have := cntEs_mem e.f2 x hx; omega)
theorem short_emb : ∀ x : X, Short (emb x)
  | .num _ => .mk _ (by simp [emb]) (fun y hy => by simp [emb] at hy)
  | .var _ => .mk _ (by simp [emb]) (fun y hy => by simp [emb] at hy)
  | .bin _ a b => .mk _ (by simp [emb]) (fun y hy => by
    simp only [emb, List.mem_cons, List.not_mem_nil, or_false] at hy
    rcases hy with rfl | rfl
    · exact short_emb a
    · exact short_emb b)
end Go.Proofs.Ytpcbfcaacilghaa.PA

/- Statements: when they are valid, and how many they are; what the functions of the program and of the reference come to. -/
namespace Go.Proofs.Ytpcbfcaacilghaa.PA
open Go.RowKit Go.Proofs.YtpcbfcaacilghaaW.PrintWords Go.Proofs.YtpcbfcaacilghaaW.PrintMore Go.Proofs.Ytpcbfcaacilghaa.Core
mutual
def cS : S37 → Nat
  | ⟨_, _, _, _, b, e⟩ => cSs b + cSs e
def cSs : List S37 → Nat
  | [] => 0
  | x :: xs => cS x + 1 + cSs xs
end
theorem cS_f (x : S37) : cS x = cSs x.f4 + cSs x.f5 := by
  cases x
  rw [cS]
theorem cSs_length : ∀ l : List S37, l.length ≤ cSs l
  | [] => Nat.zero_le _
  | x :: xs => by
    have := cSs_length xs
    rw [cSs, List.length_cons]
    omega
theorem cSs_append : ∀ l m : List S37, cSs (l ++ m) = cSs l + cSs m
  | [], m => by rw [cSs]; simp
  | x :: xs, m => by
    rw [List.cons_append, cSs, cSs, cSs_append xs m]
    omega
theorem cSs_mem : ∀ (l : List S37) (x : S37), x ∈ l → cS x < cSs l
  | y :: ys, x, h => by
    rw [cSs]
    rcases List.mem_cons.1 h with rfl | h
    · omega
    · have := cSs_mem ys x h
      omega
theorem cSs_drop (l : List S37) (i : Nat) (h : i < l.length) : cSs (l.drop i) = cS l[i] + 1 + cSs (l.drop (i + 1)) := by
  rw [List.drop_eq_getElem_cons h, cSs]
theorem cSs_one (x : S37) : cSs [x] = cS x + 1 := by
  rw [cSs, cSs]
theorem cSs_nil : cSs [] = 0 := by rw [cSs]
theorem cSs_take_drop (l : List S37) (n : Nat) : cSs (l.take n) + cSs (l.drop n) = cSs l := by
  rw [← cSs_append, List.take_append_drop]
theorem rdS_nat (l : List S37) (i : Nat) (h : i < l.length) : rd_T37 l (i : Int) = l[i] := by
  unfold rd_T37
  rw [Int.toNat_natCast, List.getD_eq_getElem?_getD, List.getElem?_eq_getElem h]
  rfl
def varOk (use : Bool) (va : Int) : Bool := if use = true then decide (0 ≤ va) && decide (va ≤ 3) else va == 0
def boxOk (boxes : Int) (use : Bool) (bx : Int) : Bool := if use = true then decide (0 ≤ bx) && decide (bx ≤ boxes - 1) else bx == 0
def plainOk (op n : Int) (la : List S34) : Bool := op == 0 && (n == 0 && la.length == 0)
/-- A statement's fields, apart from what is in its blocks. -/
def restOk (boxes : Int) (nv nb ne nd no : Bool) (va bx op n : Int) (la : List S34) (lb le : Nat) : Bool :=
  varOk nv va && (boxOk boxes nb bx && ((if ne = true then vx 5 op n la else plainOk op n la) && ((nd || lb == 0) && (no || le == 0))))
def stOk (boxes kd va bx op n : Int) (la : List S34) (lb le : Nat) : Bool :=
  if kd = 1 then restOk boxes true false true false false va bx op n la lb le
  else if kd = 2 then restOk boxes false false true true true va bx op n la lb le
  else if kd = 3 then restOk boxes false false true true false va bx op n la lb le
  else if kd = 4 then restOk boxes false true true false false va bx op n la lb le
  else if kd = 5 then restOk boxes true true false false false va bx op n la lb le
  else if kd = 7 then restOk boxes false false true false false va bx op n la lb le
  else if kd = 6 then restOk boxes false false false false false va bx op n la lb le
  else false
def stS (boxes : Int) (s : S37) : Bool := stOk boxes s.f0 s.f1 s.f2 s.f3.f0 s.f3.f1 s.f3.f2 s.f4.length s.f5.length
def isBlk (s : S37) : Bool := s.f0 == 2 || s.f0 == 3
/-- A statement with room for so many further blocks. -/
def okOne (boxes : Int) : Nat → S37 → Bool
  | 0, s => stS boxes s && !isBlk s
  | d + 1, s => stS boxes s && (!isBlk s || (s.f4.all (okOne boxes d) && s.f5.all (okOne boxes d)))
def okL (boxes : Int) (d : Nat) (l : List S37) : Bool := l.all (okOne boxes d)
theorem okOne_st {boxes : Int} {d : Nat} {s : S37} (h : okOne boxes d s = true) : stS boxes s = true := by
  cases d <;> (simp only [okOne, Bool.and_eq_true] at h; exact h.1)
theorem stOk_flat {boxes kd va bx op n : Int} {la : List S34} {lb le : Nat} (h : stOk boxes kd va bx op n la lb le = true) (h2 : kd ≠ 2) (h3 : kd ≠ 3) : lb = 0 ∧ le = 0 := by
  unfold stOk at h
  rw [if_neg h2, if_neg h3] at h
  repeat' split at h
  all_goals first
    | (cases h; done)
    | (simp only [restOk, Bool.and_eq_true, Bool.false_or, beq_iff_eq] at h; exact h.2.2.2)
theorem flat_cS {boxes : Int} {s : S37} (h : stS boxes s = true) (h2 : ¬ (s.f0 = 2 ∨ s.f0 = 3)) : cS s = 0 := by
  obtain ⟨h4, h5⟩ := stOk_flat h (fun e => h2 (.inl e)) (fun e => h2 (.inr e))
  rw [cS_f, List.eq_nil_of_length_eq_zero h4, List.eq_nil_of_length_eq_zero h5, cSs]
theorem isBlk_iff (s : S37) : isBlk s = true ↔ s.f0 = 2 ∨ s.f0 = 3 := by
  unfold isBlk
  simp
theorem inr_var (use : Bool) (va : Int) : inr va 4 use = varOk use va := by
  rw [Bool.eq_iff_iff]
  cases use
  · simp [inr, varOk]
  · simp [inr, varOk]
    omega
theorem stv_rest_ev (nv nb ne nd no : Bool) (va bx op n : Int) (la : List S34) (lb le : Nat) (boxes : Int) :
    EvP (fun k => stv_rest k nv nb ne nd no va bx op n la lb le boxes) (· = restOk boxes nv nb ne nd no va bx op n la lb le) := by
  unfold stv_rest restOk
  rw [inr_var]
  refine EvP.ite (fun h1 => ?_) (fun h1 => EvP.ret (by rw [Bool.eq_false_iff.mpr h1]; rfl))
  rw [h1, Bool.true_and]
  have hb : (inr bx boxes nb = true ∧ ¬ (nb = true ∧ boxes ≤ bx)) ↔ boxOk boxes nb bx = true := by
    cases nb
    · simp [inr, boxOk]
    · simp [inr, boxOk]
      omega
  refine EvP.ite (fun h2 => EvP.ite (fun h3 => EvP.ret ?_) (fun h3 => ?_)) (fun h2 => EvP.ret ?_)
  · have : boxOk boxes nb bx = false := Bool.eq_false_iff.mpr (fun e => (hb.mpr e).2 h3)
    rw [this]
    rfl
  · rw [hb.mp ⟨h2, h3⟩, Bool.true_and]
    refine EvP.ite (fun h4 => ?_) (fun h4 => ?_)
    · rw [if_pos h4]
      refine EvP.bindEq (impl_ExprValid_ev op n la) (EvP.ite (fun h5 => EvP.ret (by rw [h5, Bool.true_and])) (fun h5 => EvP.ret (by rw [Bool.eq_false_iff.mpr h5]; rfl)))
    · rw [if_neg h4]
      unfold plainOk
      refine EvP.ite (fun h5 => EvP.ite (fun h6 => EvP.ite (fun h7 => EvP.ret ?_) (fun h7 => EvP.ret ?_)) (fun h6 => EvP.ret ?_)) (fun h5 => EvP.ret ?_)
      · rw [beq_eq_false_iff_ne.mpr (show la.length ≠ 0 by omega)]
        simp
      · rw [h5, h6, beq_iff_eq.mpr (show la.length = 0 by omega)]
        simp
      · rw [beq_eq_false_iff_ne.mpr h6]
        simp
      · rw [beq_eq_false_iff_ne.mpr h5]
        simp
  · have : boxOk boxes nb bx = false := Bool.eq_false_iff.mpr (fun e => h2 (hb.mpr e).1)
    rw [this]
    rfl
theorem impl_stmtValid_ev (kd va bx op n : Int) (la : List S34) (lb le : Nat) (boxes : Int) :
    EvP (fun k => impl_stmtValid.f k kd va bx op n la lb le boxes) (· = stOk boxes kd va bx op n la lb le) := by
  unfold impl_stmtValid.f stOk
  have hr := fun nv nb ne nd no => stv_rest_ev nv nb ne nd no va bx op n la lb le boxes
  repeat (refine EvP.ite (fun h => ?_) (fun h => ?_); · rw [if_pos h]; exact hr _ _ _ _ _
          rw [if_neg h])
  exact EvP.ret rfl
/-- What a block's check tells: valid, and not too many; then the count. -/
def BlkSays (boxes : Int) (d : Nat) (l : List S37) (cnt : Int) (p : Bool × Int) : Prop :=
  p.1 = (okL boxes d l && decide (cnt + cSs l ≤ 16)) ∧ (p.1 = true → p.2 = cnt + cSs l)
theorem blockValid_l0 (boxes blocks : Int) (d : Nat) (hd : d ≤ 3) (hb : blocks = 3 - d) (l : List S37) (hl : cSs l ≤ 1000000000)
    (sub : ∀ d', d = d' + 1 → ∀ (m : List S37) (cnt : Int), cSs m ≤ 1000000000 → 0 ≤ cnt → cnt ≤ 16 → EvP (fun k => impl_blockValid.f k m boxes (wrap64 (blocks + 1)) cnt) (BlkSays boxes d' m cnt)) :
    ∀ (r j : Nat) (cnt : Int), j + r = l.length → 0 ≤ cnt → cnt ≤ 16 →
      EvP (fun k => impl_blockValid.l0 k l boxes blocks (j : Int) cnt) (fun p => p.1 = (okL boxes d (l.drop j) && decide (cnt + cSs (l.drop j) - r ≤ 16)) ∧ (p.1 = true → p.2 = cnt + cSs (l.drop j) - r)) := by
  intro r
  have hlen := cSs_length l
  induction r with
  | zero =>
    intro j cnt hj h0 h1
    refine EvP.step (fun k => impl_blockValid.l0.eq_2 (k := k) ..) (EvP.no (by omega) (EvP.ret ?_))
    rw [List.drop_eq_nil_of_le (by omega), cSs_nil]
    constructor
    · simp [okL]
      omega
    · intro _
      simp
  | succ r ih =>
    intro j cnt hj h0 h1
    have hlt : j < l.length := by omega
    have hc := cSs_drop l j hlt
    have hr : r ≤ cSs (l.drop (j + 1)) := by
      have := cSs_length (l.drop (j + 1))
      rw [List.length_drop] at this
      omega
    have hm := cSs_mem l _ (List.getElem_mem hlt)
    have hcs := cS_f l[j]
    have hall : okL boxes d (l.drop j) = (okOne boxes d l[j] && okL boxes d (l.drop (j + 1))) := by
      rw [List.drop_eq_getElem_cons hlt]
      rfl
    rw [hall]
    refine EvP.step (fun k => impl_blockValid.l0.eq_2 (k := k) ..) (EvP.yes (by omega) (EvP.yes (by omega) ?_))
    rw [rdS_nat l j hlt, w64 (n := (j : Int) + 1) (by omega) (by omega)]
    refine EvP.bindEq (impl_stmtValid_ev _ _ _ _ _ _ _ _ _) (EvP.ite (fun hs => ?_) (fun hs => EvP.ret ?_))
    · have hs : stS boxes l[j] = true := hs
      refine EvP.no (by omega) (EvP.ite (fun hk => ?_) (fun hk => ?_))
      · have hbk : isBlk l[j] = true := (isBlk_iff _).mpr hk
        cases d with
        | zero =>
          refine EvP.yes (by omega) (EvP.ret ?_)
          have : okOne boxes 0 l[j] = false := by simp [okOne, hbk]
          rw [this]
          exact ⟨rfl, fun h => by cases h⟩
        | succ d' =>
          have ho : okOne boxes (d' + 1) l[j] = (okL boxes d' l[j].f4 && okL boxes d' l[j].f5) := by
            simp only [okOne, hs, hbk, okL]
            rfl
          rw [ho]
          refine EvP.no (by omega) (EvP.bind (sub d' rfl _ cnt (by omega) h0 h1) fun p hp => ?_)
          obtain ⟨hp1, hp2⟩ := hp
          refine EvP.ite (fun hy => ?_) (fun hy => EvP.ret ?_)
          · have e2 := hp2 hy
            rw [hy] at hp1
            have hq := hp1.symm
            rw [Bool.and_eq_true, decide_eq_true_eq] at hq
            rw [e2]
            refine EvP.bind (sub d' rfl _ _ (by omega) (by omega) hq.2) fun q hq' => ?_
            obtain ⟨hq1, hq2⟩ := hq'
            refine EvP.ite (fun hz => ?_) (fun hz => EvP.ret ?_)
            · have e3 := hq2 hz
              rw [hz] at hq1
              have hq3 := hq1.symm
              rw [Bool.and_eq_true, decide_eq_true_eq] at hq3
              rw [e3]
              refine (ih (j + 1) _ (by omega) (by omega) hq3.2).mono fun a ha => ?_
              rw [hq.1, hq3.1, Bool.true_and, Bool.true_and]
              refine ⟨ha.1.trans ?_, fun h => (ha.2 h).trans ?_⟩
              · congr 1
                exact decide_eq_decide.mpr (by omega)
              · omega
            · have hz' := Bool.eq_false_iff.mpr hz
              rw [hz'] at hq1
              refine ⟨?_, fun h => by cases h⟩
              show false = _
              symm
              rw [Bool.eq_false_iff]
              intro e
              simp only [Bool.and_eq_true, decide_eq_true_eq] at e
              have : (okL boxes d' l[j].f5 && decide (cnt + ↑(cSs l[j].f4) + ↑(cSs l[j].f5) ≤ 16)) = true := by
                rw [e.1.1.2, decide_eq_true (by omega)]
                rfl
              rw [this] at hq1
              cases hq1
          · have hy' := Bool.eq_false_iff.mpr hy
            rw [hy'] at hp1
            refine ⟨?_, fun h => by cases h⟩
            show false = _
            symm
            rw [Bool.eq_false_iff]
            intro e
            simp only [Bool.and_eq_true, decide_eq_true_eq] at e
            have : (okL boxes d' l[j].f4 && decide (cnt + ↑(cSs l[j].f4) ≤ 16)) = true := by
              rw [e.1.1.1, decide_eq_true (by omega)]
              rfl
            rw [this] at hp1
            cases hp1
      · have hbk : isBlk l[j] = false := Bool.eq_false_iff.mpr (fun e => hk ((isBlk_iff _).mp e))
        have ho : okOne boxes d l[j] = true := by
          cases d <;> simp [okOne, hs, hbk]
        have hz := flat_cS hs hk
        rw [ho, Bool.true_and]
        refine (ih (j + 1) cnt (by omega) h0 h1).mono fun a ha => ?_
        refine ⟨ha.1.trans ?_, fun h => (ha.2 h).trans ?_⟩
        · congr 1
          exact decide_eq_decide.mpr (by omega)
        · omega
    · have hs : stS boxes l[j] = false := Bool.eq_false_iff.mpr hs
      have ho : okOne boxes d l[j] = false := Bool.eq_false_iff.mpr (fun e => by rw [okOne_st e] at hs; cases hs)
      rw [ho]
      exact ⟨rfl, fun h => by cases h⟩
theorem impl_blockValid_ev (boxes : Int) : ∀ (d : Nat) (blocks : Int) (l : List S37) (cnt : Int), d ≤ 3 → blocks = 3 - d → cSs l ≤ 1000000000 → 0 ≤ cnt → cnt ≤ 16 →
    EvP (fun k => impl_blockValid.f k l boxes blocks cnt) (BlkSays boxes d l cnt) := by
  intro d
  induction d with
  | zero =>
    intro blocks l cnt hd hb hl h0 h1
    have hlen := cSs_length l
    refine EvP.step (fun k => impl_blockValid.f.eq_2 (k := k) ..) ?_
    rw [w64 (n := cnt + (l.length : Int)) (by omega) (by omega)]
    refine EvP.ite (fun h => EvP.ret ?_) (fun h => ?_)
    · refine ⟨?_, fun h => by cases h⟩
      rw [decide_eq_false (by omega)]
      simp
    · refine (blockValid_l0 boxes blocks 0 hd hb l hl (fun d' e => by omega) l.length 0 _ (by omega) (by omega) (by omega)).mono fun a ha => ?_
      rw [List.drop_zero] at ha
      refine ⟨ha.1.trans ?_, fun h => (ha.2 h).trans ?_⟩
      · congr 1
        exact decide_eq_decide.mpr (by omega)
      · omega
  | succ d ih =>
    intro blocks l cnt hd hb hl h0 h1
    have hlen := cSs_length l
    refine EvP.step (fun k => impl_blockValid.f.eq_2 (k := k) ..) ?_
    rw [w64 (n := cnt + (l.length : Int)) (by omega) (by omega)]
    refine EvP.ite (fun h => EvP.ret ?_) (fun h => ?_)
    · refine ⟨?_, fun h => by cases h⟩
      rw [decide_eq_false (by omega)]
      simp
    · refine (blockValid_l0 boxes blocks (d + 1) hd hb l hl (fun d' e m cnt hm h0 h1 => ?_) l.length 0 _ (by omega) (by omega) (by omega)).mono fun a ha => ?_
      · have e' : d = d' := by omega
        subst e'
        rw [w64 (by omega) (by omega)]
        exact ih _ m cnt (by omega) (by omega) hm h0 h1
      · rw [List.drop_zero] at ha
        refine ⟨ha.1.trans ?_, fun h => (ha.2 h).trans ?_⟩
        · congr 1
          exact decide_eq_decide.mpr (by omega)
        · omega
/-- A list of statements is valid, with so many mailboxes. -/
def okT (boxes : Int) (l : List S37) : Bool := okL boxes 3 l && decide (cSs l ≤ 16)
theorem impl_stmtsValid_ev (boxes : Int) (l : List S37) (hl : cSs l ≤ 1000000000) : EvP (fun k => impl_stmtsValid.f k l boxes) (· = okT boxes l) := by
  unfold impl_stmtsValid.f
  refine EvP.bind (impl_blockValid_ev boxes 3 0 l 0 (by omega) (by omega) hl (by omega) (by omega)) fun p hp => EvP.ret ?_
  rw [hp.1]
  unfold okT
  congr 1
  exact decide_eq_decide.mpr (by omega)
end Go.Proofs.Ytpcbfcaacilghaa.PA

/- Statements: the reference's functions. -/
namespace Go.Proofs.Ytpcbfcaacilghaa.PA
open Go.RowKit Go.Proofs.YtpcbfcaacilghaaW.PrintWords Go.Proofs.YtpcbfcaacilghaaW.PrintMore Go.Proofs.Ytpcbfcaacilghaa.Core
theorem spec_l11Var_eq (a b c d e : Int) (l : List S34) (m n : List S37) (u : Bool) : spec_l11Var.f a b c d e l m n u = some (varOk u b) := by
  unfold spec_l11Var.f varOk
  rw [l6In_eq]
  cases u <;> rfl
theorem spec_l11Box_eq (a b c d e : Int) (l : List S34) (m n : List S37) (u : Bool) : spec_l11Box.f a b c d e l m n u = some (boxOk 3 u c) := by
  unfold spec_l11Box.f boxOk
  rw [l6In_eq]
  cases u <;> rfl
theorem spec_l11Plain_eq (op n : Int) (l : List S34) : spec_l11Plain.f op n l = some (plainOk op n l) := by
  unfold spec_l11Plain.f plainOk
  have hlen : ((l.length : Int) == 0) = (l.length == 0) := by
    rw [Bool.eq_iff_iff, beq_iff_eq, beq_iff_eq]
    omega
  by_cases h : op = 0
  · rw [if_pos h, h]
    by_cases h2 : n = 0
    · rw [if_pos h2, h2, hlen]
      rfl
    · rw [if_neg h2, beq_eq_false_iff_ne.mpr h2]
      rfl
  · rw [if_neg h, beq_eq_false_iff_ne.mpr h]
    rfl
theorem spec_l11Simple_ev (kd va bx op n : Int) (la : List S34) (m1 m2 : List S37) (h2 : kd ≠ 2) (h3 : kd ≠ 3) :
    EvP (fun k => spec_l11Simple.f k kd va bx op n la m1 m2) (· = stOk 3 kd va bx op n la m1.length m2.length) := by
  unfold spec_l11Simple.f
  have yes : ∀ b : Bool, ((m1.length == 0 && m2.length == 0) = !b) → EvP (fun k => spec_l11Simple.j0 k b kd va bx op n la m1 m2) (· = stOk 3 kd va bx op n la m1.length m2.length) := by
    intro b hb
    refine EvP.step (fun k => spec_l11Simple.j0.eq_2 (k := k) ..) ?_
    refine EvP.ite (fun h => EvP.ret ?_) (fun h => ?_)
    · symm
      rw [Bool.eq_false_iff]
      intro e
      obtain ⟨z1, z2⟩ := stOk_flat e h2 h3
      rw [z1, z2, h] at hb
      cases hb
    · have hb' : (m1.length == 0 && m2.length == 0) = true := by
        rw [hb, Bool.eq_false_iff.mpr h]
        rfl
      unfold stOk
      have hT : ∀ a b c : Bool, (a && (b && (c && ((false || m1.length == 0) && (false || m2.length == 0))))) = (a && (b && c)) := by
        intro a b c
        rw [Bool.false_or, Bool.false_or, hb', Bool.and_true]
      refine EvP.ite (fun h1 => ?_) (fun h1 => ?_)
      · rw [if_pos h1]
        unfold restOk
        rw [hT]
        refine EvP.bind0 (spec_l11Var_eq ..) (EvP.ite (fun hv => EvP.bind0 (spec_l11Box_eq ..) (EvP.ite (fun hx => EvP.bindEq (spec_ExprValid_ev ..) (EvP.ret ?_)) (fun hx => EvP.ret ?_))) (fun hv => EvP.ret ?_)) <;> simp [*]
      · rw [if_neg h1, if_neg h2, if_neg h3]
        refine EvP.ite (fun h1 => ?_) (fun h1 => ?_)
        · rw [if_pos h1]
          unfold restOk
          rw [hT]
          refine EvP.bind0 (spec_l11Var_eq ..) (EvP.ite (fun hv => EvP.bind0 (spec_l11Box_eq ..) (EvP.ite (fun hx => EvP.bindEq (spec_ExprValid_ev ..) (EvP.ret ?_)) (fun hx => EvP.ret ?_))) (fun hv => EvP.ret ?_)) <;> simp [*]
        · rw [if_neg h1]
          refine EvP.ite (fun h1 => ?_) (fun h1 => ?_)
          · rw [if_pos h1]
            unfold restOk
            rw [hT]
            refine EvP.bind0 (spec_l11Var_eq ..) (EvP.ite (fun hv => EvP.bind0 (spec_l11Box_eq ..) (EvP.ite (fun hx => EvP.bind0 (spec_l11Plain_eq ..) (EvP.ret ?_)) (fun hx => EvP.ret ?_))) (fun hv => EvP.ret ?_)) <;> simp [*]
          · rw [if_neg h1]
            refine EvP.ite (fun h6 => ?_) (fun h6 => ?_)
            · rw [if_neg (by omega), if_pos h6]
              unfold restOk
              rw [hT]
              refine EvP.bind0 (spec_l11Var_eq ..) (EvP.ite (fun hv => EvP.bind0 (spec_l11Box_eq ..) (EvP.ite (fun hx => EvP.bind0 (spec_l11Plain_eq ..) (EvP.ret ?_)) (fun hx => EvP.ret ?_))) (fun hv => EvP.ret ?_)) <;> simp [*]
            · refine EvP.ite (fun h7 => ?_) (fun h7 => ?_)
              · rw [if_pos h7]
                unfold restOk
                rw [hT]
                refine EvP.bind0 (spec_l11Var_eq ..) (EvP.ite (fun hv => EvP.bind0 (spec_l11Box_eq ..) (EvP.ite (fun hx => EvP.bindEq (spec_ExprValid_ev ..) (EvP.ret ?_)) (fun hx => EvP.ret ?_))) (fun hv => EvP.ret ?_)) <;> simp [*]
              · rw [if_neg h7, if_neg h6]
                exact EvP.ret rfl
  refine EvP.ite (fun h => yes true ?_) (fun h => yes _ ?_)
  · rw [beq_eq_false_iff_ne.mpr (show m1.length ≠ 0 by omega)]
    rfl
  · rw [beq_iff_eq.mpr (show m1.length = 0 by omega), Bool.true_and, ← decide_not, Bool.eq_iff_iff, beq_iff_eq, decide_eq_true_eq]
    omega
theorem spec_l11Blocks_l0 (l : List S37) (hl : l.length ≤ 1000000000) (x1 : Int) (d : Nat) (sub : ∀ x ∈ l, EvP (fun k => spec_l11Ok.f k x.f0 x.f1 x.f2 x.f3.f0 x.f3.f1 x.f3.f2 x.f4 x.f5 x1) (· = okOne 3 d x)) :
    ∀ (r j : Nat), j + r = l.length → EvP (fun k => spec_l11Blocks.l0 k l x1 (j : Int)) (· = okL 3 d (l.drop j)) := by
  intro r
  induction r with
  | zero =>
    intro j hj
    refine EvP.step (fun k => spec_l11Blocks.l0.eq_2 (k := k) ..) (EvP.no (by omega) (EvP.ret ?_))
    rw [List.drop_eq_nil_of_le (by omega)]
    rfl
  | succ r ih =>
    intro j hj
    have hlt : j < l.length := by omega
    refine EvP.step (fun k => spec_l11Blocks.l0.eq_2 (k := k) ..) (EvP.yes (by omega) (EvP.yes (by omega) ?_))
    rw [rdS_nat l j hlt, w64 (n := (j : Int) + 1) (by omega) (by omega)]
    have hall : okL 3 d (l.drop j) = (okOne 3 d l[j] && okL 3 d (l.drop (j + 1))) := by
      rw [List.drop_eq_getElem_cons hlt]
      rfl
    rw [hall]
    refine EvP.bindEq (sub _ (List.getElem_mem hlt)) (EvP.ite (fun h => ?_) (fun h => EvP.ret ?_))
    · rw [h, Bool.true_and]
      exact ih (j + 1) (by omega)
    · rw [Bool.eq_false_iff.mpr h]
      rfl
theorem spec_l11Blocks_of (l : List S37) (hl : l.length ≤ 1000000000) (x1 : Int) (d : Nat) (sub : ∀ x ∈ l, EvP (fun k => spec_l11Ok.f k x.f0 x.f1 x.f2 x.f3.f0 x.f3.f1 x.f3.f2 x.f4 x.f5 x1) (· = okOne 3 d x)) :
    EvP (fun k => spec_l11Blocks.f k l x1) (· = okL 3 d l) :=
  EvP.step (fun k => spec_l11Blocks.f.eq_2 (k := k) ..) (spec_l11Blocks_l0 l hl x1 d sub l.length 0 (by omega))
theorem spec_l11Ok_ev : ∀ (d : Nat) (x1 : Int) (x : S37), d ≤ 3 → x1 = d → cS x ≤ 1000000000 → EvP (fun k => spec_l11Ok.f k x.f0 x.f1 x.f2 x.f3.f0 x.f3.f1 x.f3.f2 x.f4 x.f5 x1) (· = okOne 3 d x) := by
  intro d
  induction d with
  | zero =>
    intro x1 x hd h1 hc
    have j1 : EvP (fun k => spec_l11Ok.j1 k x1 true x.f0 x.f1 x.f2 x.f3.f0 x.f3.f1 x.f3.f2 x.f4 x.f5) (· = false) :=
      EvP.step (fun k => spec_l11Ok.j1.eq_2 (k := k) ..) (EvP.yes rfl (EvP.ret rfl))
    refine EvP.step (fun k => spec_l11Ok.f.eq_2 (k := k) ..) (EvP.ite (fun h2 => ?_) (fun h2 => ?_))
    · have : okOne 3 0 x = false := by simp [okOne, isBlk, h2]
      rw [this]
      refine EvP.step (fun k => spec_l11Ok.j0.eq_2 (k := k) ..) (EvP.no Bool.false_ne_true (EvP.yes (by omega) j1))
    · refine EvP.step (fun k => spec_l11Ok.j0.eq_2 (k := k) ..) (EvP.ite (fun h3 => ?_) (fun h3 => EvP.yes (by omega) ?_))
      · have h3 : x.f0 ≠ 3 := bne_iff_ne.mp h3
        refine EvP.bindEq (spec_l11Simple_ev _ _ _ _ _ _ _ _ h2 h3) (EvP.ret ?_)
        simp [okOne, isBlk, h2, h3, stS]
      · have h3 : x.f0 = 3 := by simpa using h3
        have : okOne 3 0 x = false := by simp [okOne, isBlk, h3]
        rw [this]
        exact j1
  | succ d ih =>
    intro x1 x hd h1 hc
    have hcs := cS_f x
    have e1 : wrap64 (x1 - 1) = (d : Int) := by
      rw [w64 (by omega) (by omega)]
      omega
    have len4 := cSs_length x.f4
    have len5 := cSs_length x.f5
    have sub : ∀ m : List S37, cSs m ≤ 1000000000 → EvP (fun k => spec_l11Blocks.f k m (wrap64 (x1 - 1))) (· = okL 3 d m) := by
      intro m hm
      have := cSs_length m
      refine spec_l11Blocks_of m (by omega) _ d (fun y hy => ih _ y (by omega) e1 ?_)
      have := cSs_mem m y hy
      omega
    have j1 : ∀ b : Bool, isBlk x = true → (b = (x.f0 == 3 && decide ((x.f5.length : Int) > 0))) → EvP (fun k => spec_l11Ok.j1 k x1 b x.f0 x.f1 x.f2 x.f3.f0 x.f3.f1 x.f3.f2 x.f4 x.f5) (· = okOne 3 (d + 1) x) := by
      intro b hb hbb
      have ho : okOne 3 (d + 1) x = (stS 3 x && (okL 3 d x.f4 && okL 3 d x.f5)) := by
        simp only [okOne, hb, okL]
        rfl
      rw [ho]
      refine EvP.step (fun k => spec_l11Ok.j1.eq_2 (k := k) ..) (EvP.ite (fun h => EvP.ret ?_) (fun h => ?_))
      · rw [h] at hbb
        have h4 := hbb.symm
        simp only [Bool.and_eq_true, beq_iff_eq, decide_eq_true_eq] at h4
        have : stS 3 x = false := by
          have hne : (x.f5.length == 0) = false := beq_eq_false_iff_ne.mpr (by omega)
          simp [stS, stOk, h4.1, restOk, hne]
        rw [this]
        rfl
      · have hst : stS 3 x = (varOk false x.f1 && (boxOk 3 false x.f2 && vx 5 x.f3.f0 x.f3.f1 x.f3.f2)) := by
          rcases (isBlk_iff x).mp hb with h2 | h2
          · simp [stS, stOk, h2, restOk]
          · have h5 : x.f5.length = 0 := by
              rw [Bool.eq_false_iff.mpr h, h2] at hbb
              have := hbb.symm
              simp only [beq_self_eq_true, Bool.true_and, decide_eq_false_iff_not] at this
              omega
            simp [stS, stOk, h2, restOk, h5]
        rw [hst]
        refine EvP.bind0 (spec_l11Var_eq ..) (EvP.ite (fun hv => EvP.bind0 (spec_l11Box_eq ..) (EvP.ite (fun hx => EvP.bindEq (spec_ExprValid_ev ..) (EvP.ite (fun he => ?_) (fun he => EvP.ret ?_))) (fun hx => EvP.ret ?_))) (fun hv => EvP.ret ?_))
        · refine EvP.bindEq (sub x.f4 (by omega)) (EvP.ite (fun h4 => EvP.bindEq (sub x.f5 (by omega)) (EvP.ret ?_)) (fun h4 => EvP.ret ?_)) <;> simp [*]
        all_goals simp [*]
    refine EvP.step (fun k => spec_l11Ok.f.eq_2 (k := k) ..) (EvP.ite (fun h2 => ?_) (fun h2 => ?_))
    · refine EvP.step (fun k => spec_l11Ok.j0.eq_2 (k := k) ..) (EvP.no Bool.false_ne_true (EvP.no (by omega) (EvP.no (by omega) (j1 false ?_ ?_))))
      · simp [isBlk, h2]
      · simp [h2]
    · refine EvP.step (fun k => spec_l11Ok.j0.eq_2 (k := k) ..) (EvP.ite (fun h3 => ?_) (fun h3 => EvP.no (by omega) ?_))
      · have h3 : x.f0 ≠ 3 := bne_iff_ne.mp h3
        refine EvP.bindEq (spec_l11Simple_ev _ _ _ _ _ _ _ _ h2 h3) (EvP.ret ?_)
        simp [okOne, isBlk, h2, h3, stS]
      · have h3 : x.f0 = 3 := by simpa using h3
        refine EvP.yes h3 (j1 _ ?_ ?_)
        · simp [isBlk, h3]
        · simp [h3]
theorem spec_l11Blocks_ev (l : List S37) (hl : cSs l ≤ 1000000000) : EvP (fun k => spec_l11Blocks.f k l 3) (· = okL 3 3 l) := by
  have := cSs_length l
  refine spec_l11Blocks_of l (by omega) _ 3 (fun y hy => spec_l11Ok_ev 3 3 y (by omega) (by omega) ?_)
  have := cSs_mem l y hy
  omega
theorem spec_l11Count_ev : ∀ (c : Nat) (l : List S37), cSs l ≤ c → c ≤ 1000000000 → EvP (fun k => spec_l11Count.f k l) (· = (cSs l : Int)) := by
  intro c
  induction c with
  | zero =>
    intro l hl hc
    have := cSs_length l
    refine EvP.step (fun k => spec_l11Count.f.eq_2 (k := k) ..) (EvP.step (fun k => spec_l11Count.l0.eq_2 (k := k) ..) (EvP.no (by omega) (EvP.ret ?_)))
    omega
  | succ c ih =>
    intro l hl hc
    have hlen := cSs_length l
    have loop : ∀ (r j : Nat) (a : Int), j + r = l.length → 0 ≤ a → a + cSs (l.drop j) ≤ 1000000000 → EvP (fun k => spec_l11Count.l0 k l a (j : Int)) (· = a + cSs (l.drop j)) := by
      intro r
      induction r with
      | zero =>
        intro j a hj h0 h1
        refine EvP.step (fun k => spec_l11Count.l0.eq_2 (k := k) ..) (EvP.no (by omega) (EvP.ret ?_))
        rw [List.drop_eq_nil_of_le (by omega), cSs_nil]
        omega
      | succ r ih2 =>
        intro j a hj h0 h1
        have hlt : j < l.length := by omega
        have hd := cSs_drop l j hlt
        have hm := cSs_mem l _ (List.getElem_mem hlt)
        have hcs := cS_f l[j]
        refine EvP.step (fun k => spec_l11Count.l0.eq_2 (k := k) ..) (EvP.yes (by omega) (EvP.yes (by omega) ?_))
        rw [rdS_nat l j hlt, w64 (n := (j : Int) + 1) (by omega) (by omega)]
        refine EvP.bindEq (ih _ (by omega) (by omega)) (EvP.bindEq (ih _ (by omega) (by omega)) ?_)
        rw [w64 (n := a + 1) (by omega) (by omega), w64 (n := a + 1 + (cSs l[j].f4 : Int)) (by omega) (by omega), w64 (by omega) (by omega)]
        refine (ih2 (j + 1) _ (by omega) (by omega) (by omega)).mono fun b hb => ?_
        omega
    refine EvP.step (fun k => spec_l11Count.f.eq_2 (k := k) ..) ((loop l.length 0 0 (by omega) (by omega) (by rw [List.drop_zero]; omega)).mono fun b hb => ?_)
    rw [List.drop_zero] at hb
    omega
theorem spec_StmtsValid_ev (l : List S37) (hl : cSs l ≤ 1000000000) : EvP (fun k => spec_StmtsValid.f k l) (· = okT 3 l) := by
  unfold spec_StmtsValid.f okT
  refine EvP.bindEq (spec_l11Blocks_ev l hl) (EvP.ite (fun h => EvP.bindEq (spec_l11Count_ev _ l hl (by omega)) (EvP.ret ?_)) (fun h => EvP.ret ?_))
  · rw [h, Bool.true_and]
    exact decide_eq_decide.mpr (by omega)
  · rw [Bool.eq_false_iff.mpr h]
    rfl
def ctT (l : List S37) : Int := if okT 3 l = true then (cSs l : Int) else -1
theorem okL_append (boxes : Int) (d : Nat) (l m : List S37) : okL boxes d (l ++ m) = (okL boxes d l && okL boxes d m) := List.all_append
theorem okL_take_drop {boxes : Int} {d : Nat} {l : List S37} (n : Nat) (h : okL boxes d l = true) : okL boxes d (l.take n) = true ∧ okL boxes d (l.drop n) = true := by
  rw [← List.take_append_drop n l, okL_append, Bool.and_eq_true] at h
  exact h
theorem okT_iff {boxes : Int} {l : List S37} : okT boxes l = true ↔ okL boxes 3 l = true ∧ cSs l ≤ 16 := by
  unfold okT
  rw [Bool.and_eq_true, decide_eq_true_eq]
theorem okT_take {boxes : Int} {l : List S37} (n : Nat) (h : okT boxes l = true) : okT boxes (l.take n) = true := by
  have := cSs_take_drop l n
  rw [okT_iff] at h ⊢
  exact ⟨(okL_take_drop n h.1).1, by omega⟩
theorem okT_drop {boxes : Int} {l : List S37} (n : Nat) (h : okT boxes l = true) : okT boxes (l.drop n) = true := by
  have := cSs_take_drop l n
  rw [okT_iff] at h ⊢
  exact ⟨(okL_take_drop n h.1).2, by omega⟩
theorem okOne_more (boxes : Int) : ∀ (d : Nat) (s : S37), okOne boxes d s = true → okOne boxes (d + 1) s = true
  | 0, s, h => by
    simp only [okOne, Bool.and_eq_true] at h ⊢
    exact ⟨h.1, by rw [h.2]; rfl⟩
  | d + 1, s, h => by
    simp only [okOne, Bool.and_eq_true, Bool.or_eq_true] at h ⊢
    refine ⟨h.1, ?_⟩
    rcases h.2 with h2 | ⟨h2, h3⟩
    · exact .inl h2
    · right
      constructor
      · rw [List.all_eq_true] at h2 ⊢
        intro x hx
        have := okOne_more boxes d x (h2 x hx)
        simp only [okOne, Bool.and_eq_true, Bool.or_eq_true] at this
        exact Bool.and_eq_true_iff.mpr ⟨this.1, Bool.or_eq_true_iff.mpr (this.2.imp id fun h => Bool.and_eq_true_iff.mpr h)⟩
      · rw [List.all_eq_true] at h3 ⊢
        intro x hx
        have := okOne_more boxes d x (h3 x hx)
        simp only [okOne, Bool.and_eq_true, Bool.or_eq_true] at this
        exact Bool.and_eq_true_iff.mpr ⟨this.1, Bool.or_eq_true_iff.mpr (this.2.imp id fun h => Bool.and_eq_true_iff.mpr h)⟩
theorem okL_more {boxes : Int} {d : Nat} {l : List S37} (h : okL boxes d l = true) : okL boxes (d + 1) l = true := by
  unfold okL at h ⊢
  rw [List.all_eq_true] at h ⊢
  exact fun x hx => okOne_more boxes d x (h x hx)
theorem okOne_blocks {boxes : Int} {d : Nat} {s : S37} (h : okOne boxes (d + 1) s = true) : okL boxes (d + 1) s.f4 = true ∧ okL boxes (d + 1) s.f5 = true := by
  by_cases hb : isBlk s = true
  · have h' : (stS boxes s && (!isBlk s || (okL boxes d s.f4 && okL boxes d s.f5))) = true := h
    rw [hb] at h'
    simp only [Bool.and_eq_true, Bool.not_true, Bool.false_or] at h'
    exact ⟨okL_more h'.2.1, okL_more h'.2.2⟩
  · have hs := okOne_st h
    have hc := flat_cS hs (fun e => hb ((isBlk_iff s).mpr e))
    rw [cS_f] at hc
    have h4 := cSs_length s.f4
    have h5 := cSs_length s.f5
    rw [List.eq_nil_of_length_eq_zero (show s.f4.length = 0 by omega), List.eq_nil_of_length_eq_zero (show s.f5.length = 0 by omega)]
    exact ⟨rfl, rfl⟩
theorem okT_blocks {boxes : Int} {l : List S37} (h : okT boxes l = true) (x : S37) (hx : x ∈ l) : okT boxes x.f4 = true ∧ okT boxes x.f5 = true := by
  rw [okT_iff] at h
  have ho : okOne boxes 3 x = true := by
    have h1 := h.1
    unfold okL at h1
    rw [List.all_eq_true] at h1
    exact h1 x hx
  have hb := okOne_blocks ho
  have hm := cSs_mem l x hx
  have hc := cS_f x
  exact ⟨okT_iff.mpr ⟨hb.1, by omega⟩, okT_iff.mpr ⟨hb.2, by omega⟩⟩
theorem okT_append {boxes : Int} {l m : List S37} : okT boxes (l ++ m) = (okL boxes 3 l && okL boxes 3 m && decide (cSs l + cSs m ≤ 16)) := by
  unfold okT
  rw [okL_append, cSs_append]
end Go.Proofs.Ytpcbfcaacilghaa.PA

/- The exact comparison's words on statements: counting, copying, comparing. -/
namespace Go.Proofs.Ytpcbfcaacilghaa.PA
open Go.RowKit Go.Proofs.YtpcbfcaacilghaaW.PrintWords Go.Proofs.YtpcbfcaacilghaaW.PrintMore Go.Proofs.Ytpcbfcaacilghaa.Core
mutual
def trS : S89 → S37
  | ⟨a, b, c, e, m, n⟩ => ⟨a, b, c, trE e, trSs m, trSs n⟩
def trSs : List S89 → List S37
  | [] => []
  | x :: xs => trS x :: trSs xs
end
mutual
def cntS : S89 → Nat
  | ⟨_, _, _, e, m, n⟩ => cntE e + cntSs m + cntSs n
def cntSs : List S89 → Nat
  | [] => 0
  | x :: xs => cntS x + 1 + cntSs xs
end
theorem trS_f (x : S89) : trS x = ⟨x.f0, x.f1, x.f2, trE x.f3, trSs x.f4, trSs x.f5⟩ := by
  cases x
  rw [trS]
theorem cntS_f (x : S89) : cntS x = cntE x.f3 + cntSs x.f4 + cntSs x.f5 := by
  cases x
  rw [cntS]
theorem trSs_length : ∀ l : List S89, (trSs l).length = l.length
  | [] => by rw [trSs]; rfl
  | x :: xs => by rw [trSs, List.length_cons, List.length_cons, trSs_length xs]
theorem cntSs_length : ∀ l : List S89, l.length ≤ cntSs l
  | [] => Nat.zero_le _
  | x :: xs => by
    have := cntSs_length xs
    rw [cntSs, List.length_cons]
    omega
theorem cntSs_mem : ∀ (l : List S89) (x : S89), x ∈ l → cntS x ≤ cntSs l
  | y :: ys, x, h => by
    rw [cntSs]
    rcases List.mem_cons.1 h with rfl | h
    · omega
    · have := cntSs_mem ys x h
      omega
theorem cntSs_drop (l : List S89) (i : Nat) (h : i < l.length) : cntSs (l.drop i) = cntS l[i] + 1 + cntSs (l.drop (i + 1)) := by
  rw [List.drop_eq_getElem_cons h, cntSs]
theorem ind_LS {P : S89 → Prop} (h : ∀ e : S89, (∀ x ∈ e.f4, P x) → (∀ x ∈ e.f5, P x) → P e) (e : S89) : P e :=
  S89.rec (motive_1 := P) (motive_2 := fun l => ∀ x ∈ l, P x) (fun a b c e m n ih1 ih2 => h ⟨a, b, c, e, m, n⟩ ih1 ih2) (fun x hx => by simp at hx) (fun y ys h1 h2 x hx => by
    rcases List.mem_cons.1 hx with rfl | hx
    · exact h1
    · exact h2 x hx) e
theorem cSs_le_of (l : List S89) (he : ∀ x ∈ l, cS (trS x) ≤ cntS x) : cSs (trSs l) ≤ cntSs l := by
  induction l with
  | nil => rw [trSs, cSs]; exact Nat.zero_le _
  | cons a l ih =>
    have h1 := he a List.mem_cons_self
    have h2 := ih (fun x hx => he x (List.mem_cons_of_mem _ hx))
    rw [trSs, cSs, cntSs]
    omega
theorem cS_le (e : S89) : cS (trS e) ≤ cntS e := by
  refine ind_LS (P := fun e => cS (trS e) ≤ cntS e) (fun e i1 i2 => ?_) e
  have h1 := cSs_le_of e.f4 i1
  have h2 := cSs_le_of e.f5 i2
  rw [trS_f, cS_f, cntS_f]
  dsimp only
  omega
theorem cSs_le (l : List S89) : cSs (trSs l) ≤ cntSs l := cSs_le_of l (fun x _ => cS_le x)
theorem rdLS_nat (l : List S89) (i : Nat) (h : i < l.length) : rd_T89 l (i : Int) = l[i] := by
  unfold rd_T89
  rw [Int.toNat_natCast, List.getD_eq_getElem?_getD, List.getElem?_eq_getElem h]
  rfl
theorem szStmtS_l0 (l : List S89) (hl : l.length ≤ 1048576) (he : ∀ x ∈ l, ∀ n : Int, 0 ≤ n → n ≤ 1048576 → EvP (fun k => laws_szStmt.f k x.f0 x.f1 x.f2 x.f3.f0 x.f3.f1 x.f3.f2 x.f4 x.f5 n) (· = lefts (cntS x) n)) :
    ∀ (d j : Nat) (n : Int), j + d = l.length → 0 ≤ n → n ≤ 1048576 → EvP (fun k => laws_szStmtS.l0 k l n (j : Int)) (· = lefts (cntSs (l.drop j) - d) n) := by
  intro d
  induction d with
  | zero =>
    intro j n hj h0 h1
    refine EvP.step (fun k => laws_szStmtS.l0.eq_2 (k := k) ..) (EvP.no (by omega) (EvP.ret ?_))
    rw [List.drop_eq_nil_of_le (by omega)]
    unfold lefts
    rw [if_pos (by simp [cntSs]; omega)]
    simp [cntSs]
  | succ d ih =>
    intro j n hj h0 h1
    have hlt : j < l.length := by omega
    have hc := cntSs_drop l j hlt
    have hd : d ≤ cntSs (l.drop (j + 1)) := by
      have := cntSs_length (l.drop (j + 1))
      rw [List.length_drop] at this
      omega
    refine EvP.step (fun k => laws_szStmtS.l0.eq_2 (k := k) ..) (EvP.yes (by omega) (EvP.yes (by omega) ?_))
    rw [rdLS_nat l j hlt, w64 (n := (j : Int) + 1) (by omega) (by omega)]
    refine EvP.bindEq (he _ (List.getElem_mem hlt) n h0 h1) ?_
    by_cases h2 : (cntS l[j] : Int) ≤ n
    · have e : lefts (cntS l[j]) n = n - cntS l[j] := if_pos h2
      rw [e]
      refine EvP.no (by omega) ?_
      refine (ih (j + 1) (n - cntS l[j]) (by omega) (by omega) (by omega)).mono fun a ha => ?_
      rw [ha]
      unfold lefts
      by_cases h3 : ((cntSs (l.drop (j + 1)) - d : Nat) : Int) ≤ n - cntS l[j]
      · rw [if_pos h3, if_pos (by omega)]
        omega
      · rw [if_neg h3, if_neg (by omega)]
    · have e : lefts (cntS l[j]) n = -1 := if_neg h2
      rw [e]
      refine EvP.yes (by omega) (EvP.ret ?_)
      unfold lefts
      rw [if_neg (by omega)]
theorem szStmtS_of (l : List S89) (hl : l.length ≤ maxLen) (he : ∀ x ∈ l, ∀ n : Int, 0 ≤ n → n ≤ 1048576 → EvP (fun k => laws_szStmt.f k x.f0 x.f1 x.f2 x.f3.f0 x.f3.f1 x.f3.f2 x.f4 x.f5 n) (· = lefts (cntS x) n)) (n : Int) (h0 : 0 ≤ n) (h1 : n ≤ 1048576) :
    EvP (fun k => laws_szStmtS.f k l n) (· = lefts (cntSs l) n) := by
  have hm : maxLen = 9223372036854775807 := rfl
  have hc := cntSs_length l
  refine EvP.step (fun k => laws_szStmtS.f.eq_2 (k := k) ..) ?_
  rw [w64 (by omega) (by omega)]
  refine EvP.ite (fun h => EvP.ret ?_) (fun h => ?_)
  · unfold lefts
    rw [if_neg (by omega)]
  · refine (szStmtS_l0 l (by omega) he l.length 0 (n - l.length) (by omega) (by omega) (by omega)).mono fun a ha => ?_
    rw [ha, List.drop_zero]
    unfold lefts
    by_cases h3 : ((cntSs l - l.length : Nat) : Int) ≤ n - l.length
    · rw [if_pos h3, if_pos (by omega)]
      omega
    · rw [if_neg h3, if_neg (by omega)]
theorem szStmt_ev (e : S89) : WF89 e → ∀ n : Int, 0 ≤ n → n ≤ 1048576 → EvP (fun k => laws_szStmt.f k e.f0 e.f1 e.f2 e.f3.f0 e.f3.f1 e.f3.f2 e.f4 e.f5 n) (· = lefts (cntS e) n) := by
  refine ind_LS (P := fun e => WF89 e → ∀ n : Int, 0 ≤ n → n ≤ 1048576 → EvP (fun k => laws_szStmt.f k e.f0 e.f1 e.f2 e.f3.f0 e.f3.f1 e.f3.f2 e.f4 e.f5 n) (· = lefts (cntS e) n)) (fun e i1 i2 hw n h0 h1 => ?_) e
  cases hw with
  | mk _ _ _ _ he hl4 hx4 hl5 hx5 =>
    refine EvP.step (fun k => laws_szStmt.f.eq_2 (k := k) ..) ?_
    refine EvP.bindEq (szExpr_ev e.f3 he n h0 h1) ?_
    rw [cntS_f]
    by_cases c1 : (cntE e.f3 : Int) ≤ n
    · rw [show lefts (cntE e.f3) n = n - cntE e.f3 from if_pos c1]
      refine EvP.no (by omega) (EvP.bindEq (szStmtS_of e.f4 hl4 (fun x hm => i1 x hm (hx4 x hm)) _ (by omega) (by omega)) ?_)
      by_cases c2 : (cntSs e.f4 : Int) ≤ n - cntE e.f3
      · rw [show lefts (cntSs e.f4) (n - cntE e.f3) = n - cntE e.f3 - cntSs e.f4 from if_pos c2]
        refine EvP.no (by omega) (EvP.bindEq (szStmtS_of e.f5 hl5 (fun x hm => i2 x hm (hx5 x hm)) _ (by omega) (by omega)) ?_)
        by_cases c3 : (cntSs e.f5 : Int) ≤ n - cntE e.f3 - cntSs e.f4
        · rw [show lefts (cntSs e.f5) (n - cntE e.f3 - cntSs e.f4) = n - cntE e.f3 - cntSs e.f4 - cntSs e.f5 from if_pos c3]
          refine EvP.no (by omega) (EvP.ret ?_)
          unfold lefts
          rw [if_pos (by omega)]
          omega
        · rw [show lefts (cntSs e.f5) (n - cntE e.f3 - cntSs e.f4) = -1 from if_neg c3]
          refine EvP.yes (by omega) (EvP.ret ?_)
          unfold lefts
          rw [if_neg (by omega)]
      · rw [show lefts (cntSs e.f4) (n - cntE e.f3) = -1 from if_neg c2]
        refine EvP.yes (by omega) (EvP.ret ?_)
        unfold lefts
        rw [if_neg (by omega)]
    · rw [show lefts (cntE e.f3) n = -1 from if_neg c1]
      refine EvP.yes (by omega) (EvP.ret ?_)
      unfold lefts
      rw [if_neg (by omega)]
theorem szStmtS_ev (l : List S89) (hl : l.length ≤ maxLen) (hx : ∀ x ∈ l, WF89 x) (n : Int) (h0 : 0 ≤ n) (h1 : n ≤ 1048576) : EvP (fun k => laws_szStmtS.f k l n) (· = lefts (cntSs l) n) :=
  szStmtS_of l hl (fun x hm => szStmt_ev x (hx x hm)) n h0 h1
theorem toStmtS_l0 (l : List S89) (hl : l.length ≤ 1048576) (he : ∀ x ∈ l, EvP (fun k => laws_toStmt.f k x) (· = trS x)) :
    ∀ (d j : Nat) (m : List S37), j + d = l.length → m.length = l.length → EvP (fun k => laws_toStmtS.l0 k l m (j : Int)) (· = m.take j ++ trSs (l.drop j)) := by
  intro d
  induction d with
  | zero =>
    intro j m hj hm
    refine EvP.step (fun k => laws_toStmtS.l0.eq_2 (k := k) ..) (EvP.no (by omega) (EvP.ret ?_))
    rw [List.drop_eq_nil_of_le (by omega), List.take_of_length_le (by omega)]
    simp [trSs]
  | succ d ih =>
    intro j m hj hm
    have hlt : j < l.length := by omega
    refine EvP.step (fun k => laws_toStmtS.l0.eq_2 (k := k) ..) (EvP.yes (by omega) (EvP.yes (by omega) ?_))
    rw [rdLS_nat l j hlt, w64 (n := (j : Int) + 1) (by omega) (by omega), Int.toNat_natCast]
    refine EvP.bindEq (he _ (List.getElem_mem hlt)) (EvP.yes (by omega) ?_)
    refine (ih (j + 1) (m.set j (trS l[j])) (by omega) (by rw [List.length_set]; exact hm)).mono fun a ha => ?_
    rw [ha, List.take_succ_eq_append_getElem (by rw [List.length_set]; omega), List.getElem_set_self, List.take_set_of_le (by omega), List.append_assoc, List.drop_eq_getElem_cons hlt, trSs]
    rfl
theorem toStmtS_of (l : List S89) (hl : l.length ≤ 1048576) (he : ∀ x ∈ l, EvP (fun k => laws_toStmt.f k x) (· = trS x)) : EvP (fun k => laws_toStmtS.f k l) (· = trSs l) := by
  refine EvP.step (fun k => laws_toStmtS.f.eq_2 (k := k) ..) (EvP.yes (by omega) ?_)
  exact toStmtS_l0 l hl he l.length 0 _ (by omega) (by rw [List.length_replicate])
theorem toStmt_ev (e : S89) : cntS e ≤ 1048576 → EvP (fun k => laws_toStmt.f k e) (· = trS e) := by
  refine ind_LS (P := fun e => cntS e ≤ 1048576 → EvP (fun k => laws_toStmt.f k e) (· = trS e)) (fun e i1 i2 hc => ?_) e
  rw [cntS_f] at hc
  have h4 := cntSs_length e.f4
  have h5 := cntSs_length e.f5
  refine EvP.step (fun k => laws_toStmt.f.eq_2 (k := k) ..) ?_
  refine EvP.bindEq (toExpr_ev e.f3 (by omega)) (EvP.bindEq (toStmtS_of e.f4 (by omega) (fun x hm => i1 x hm (by have := cntSs_mem e.f4 x hm; omega))) (EvP.bindEq (toStmtS_of e.f5 (by omega) (fun x hm => i2 x hm (by have := cntSs_mem e.f5 x hm; omega))) (EvP.ret ?_)))
  rw [trS_f]
  simp only [tri, etaE]
theorem toStmtS_ev (l : List S89) (hc : cntSs l ≤ 1048576) : EvP (fun k => laws_toStmtS.f k l) (· = trSs l) :=
  toStmtS_of l (by have := cntSs_length l; omega) (fun x hm => toStmt_ev x (by have := cntSs_mem l x hm; omega))
theorem eqStmtS_l0 (m : List S37) (hl : m.length ≤ 1048576) (he : ∀ x ∈ m, EvP (fun k => laws_eqStmt.f k x.f0 x.f1 x.f2 x.f3.f0 x.f3.f1 x.f3.f2 x.f4 x.f5 x.f0 x.f1 x.f2 x.f3.f0 x.f3.f1 x.f3.f2 x.f4 x.f5) (· = true)) :
    ∀ (d j : Nat), j + d = m.length → EvP (fun k => laws_eqStmtS.l0 k m m (j : Int)) (· = true) := by
  intro d
  induction d with
  | zero =>
    intro j hj
    exact EvP.step (fun k => laws_eqStmtS.l0.eq_2 (k := k) ..) (EvP.no (by omega) (EvP.ret rfl))
  | succ d ih =>
    intro j hj
    have hlt : j < m.length := by omega
    refine EvP.step (fun k => laws_eqStmtS.l0.eq_2 (k := k) ..) (EvP.yes (by omega) (EvP.yes (by omega) (EvP.yes (by omega) ?_)))
    rw [rdS_nat m j hlt, w64 (n := (j : Int) + 1) (by omega) (by omega)]
    exact EvP.bindEq (he _ (List.getElem_mem hlt)) (EvP.yes rfl (ih (j + 1) (by omega)))
theorem eqStmtS_of (m : List S37) (hl : m.length ≤ 1048576) (he : ∀ x ∈ m, EvP (fun k => laws_eqStmt.f k x.f0 x.f1 x.f2 x.f3.f0 x.f3.f1 x.f3.f2 x.f4 x.f5 x.f0 x.f1 x.f2 x.f3.f0 x.f3.f1 x.f3.f2 x.f4 x.f5) (· = true)) : EvP (fun k => laws_eqStmtS.f k m m) (· = true) :=
  EvP.step (fun k => laws_eqStmtS.f.eq_2 (k := k) ..) (EvP.yes rfl (eqStmtS_l0 m hl he m.length 0 (by omega)))
/-- Short lists, all the way down. -/
inductive ShortS : S37 → Prop
  | mk (x : S37) (he : Short x.f3) (h4 : x.f4.length ≤ 1048576) (g4 : ∀ y ∈ x.f4, ShortS y) (h5 : x.f5.length ≤ 1048576) (g5 : ∀ y ∈ x.f5, ShortS y) : ShortS x
theorem eqStmt_short (e : S37) (h : ShortS e) : EvP (fun k => laws_eqStmt.f k e.f0 e.f1 e.f2 e.f3.f0 e.f3.f1 e.f3.f2 e.f4 e.f5 e.f0 e.f1 e.f2 e.f3.f0 e.f3.f1 e.f3.f2 e.f4 e.f5) (· = true) := by
  induction h with
  | mk x he h4 g4 h5 g5 i4 i5 =>
    refine EvP.step (fun k => laws_eqStmt.f.eq_2 (k := k) ..) (EvP.yes rfl (EvP.yes rfl (EvP.yes rfl ?_)))
    exact EvP.bindEq (eqExpr_short _ he) (EvP.yes rfl (EvP.bindEq (eqStmtS_of x.f4 h4 i4) (EvP.yes rfl (EvP.bindEq (eqStmtS_of x.f5 h5 i5) (EvP.yes rfl (EvP.ret rfl))))))
theorem trSs_mem {l : List S89} {y : S37} (h : y ∈ trSs l) : ∃ x ∈ l, y = trS x := by
  induction l with
  | nil => simp [trSs] at h
  | cons a l ih =>
    rw [trSs] at h
    rcases List.mem_cons.1 h with rfl | h
    · exact ⟨a, List.mem_cons_self, rfl⟩
    · obtain ⟨x, hx, e⟩ := ih h
      exact ⟨x, List.mem_cons_of_mem _ hx, e⟩
theorem short_trS (e : S89) : cntS e ≤ 1048576 → ShortS (trS e) := by
  refine ind_LS (P := fun e => cntS e ≤ 1048576 → ShortS (trS e)) (fun e i1 i2 hc => ?_) e
  rw [cntS_f] at hc
  have h4 := cntSs_length e.f4
  have h5 := cntSs_length e.f5
  rw [trS_f]
  refine .mk _ (short_trE e.f3 (by omega)) (by rw [trSs_length]; omega) (fun y hy => ?_) (by rw [trSs_length]; omega) (fun y hy => ?_)
  · obtain ⟨x, hx, rfl⟩ := trSs_mem hy
    exact i1 x hx (by have := cntSs_mem e.f4 x hx; omega)
  · obtain ⟨x, hx, rfl⟩ := trSs_mem hy
    exact i2 x hx (by have := cntSs_mem e.f5 x hx; omega)
theorem eqStmtS_short (l : List S89) (hc : cntSs l ≤ 1048576) : EvP (fun k => laws_eqStmtS.f k (trSs l) (trSs l)) (· = true) :=
  eqStmtS_of _ (by rw [trSs_length]; have := cntSs_length l; omega) (fun y hy => by
    obtain ⟨x, hx, rfl⟩ := trSs_mem hy
    exact eqStmt_short _ (short_trS x (by have := cntSs_mem l x hx; omega)))
theorem left_cnt {c : Nat} (h : ¬ lefts c 1048576 < 0) : c ≤ 1048576 := by
  unfold lefts at h
  by_cases h2 : (c : Int) ≤ 1048576
  · omega
  · rw [if_neg h2] at h
    omega
end Go.Proofs.Ytpcbfcaacilghaa.PA

/- Programs: when they are valid, and how many statements they have. -/
namespace Go.Proofs.Ytpcbfcaacilghaa.PA
open Go.RowKit Go.Proofs.YtpcbfcaacilghaaW.PrintWords Go.Proofs.YtpcbfcaacilghaaW.PrintMore Go.Proofs.Ytpcbfcaacilghaa.Core
theorem rdSS_nat (l : List (List S37)) (i : Nat) (h : i < l.length) : rd_L3 l (i : Int) = l[i] := by
  unfold rd_L3
  rw [Int.toNat_natCast, List.getD_eq_getElem?_getD, List.getElem?_eq_getElem h]
  rfl
def roomOk (r : Int) : Bool := decide (1 ≤ r) && decide (r ≤ 4)
def roomsOk (rs : List Int) : Bool := rs.all roomOk && decide ((rs.length : Int) ≤ 3)
theorem impl_rooms_l0 (rs : List Int) (hl : rs.length ≤ 1000000000) : ∀ (d j : Nat), j + d = rs.length → EvP (fun k => impl_roomsValid.l0 k rs rs (rs.length : Int) (j : Int)) (· = ((rs.drop j).all roomOk && decide ((rs.length : Int) ≤ 3))) := by
  intro d
  induction d with
  | zero =>
    intro j hj
    refine EvP.step (fun k => impl_roomsValid.l0.eq_2 (k := k) ..) (EvP.no (by omega) (EvP.ret ?_))
    rw [List.drop_eq_nil_of_le (by omega)]
    rfl
  | succ d ih =>
    intro j hj
    have hlt : j < rs.length := by omega
    refine EvP.step (fun k => impl_roomsValid.l0.eq_2 (k := k) ..) (EvP.yes (by omega) (EvP.yes (by omega) (EvP.yes (by omega) ?_)))
    rw [rd_nat rs j hlt, w64 (by omega) (by omega), List.drop_eq_getElem_cons hlt, List.all_cons]
    refine EvP.ite (fun h => EvP.ret ?_) (fun h => EvP.ite (fun h2 => EvP.ret ?_) (fun h2 => ?_))
    · have : roomOk rs[j] = false := by
        unfold roomOk
        rw [decide_eq_false (by omega)]
        rfl
      rw [this]
      rfl
    · have : roomOk rs[j] = false := by
        unfold roomOk
        rw [decide_eq_false (p := rs[j] ≤ 4) (by omega), Bool.and_false]
      rw [this]
      rfl
    · have : roomOk rs[j] = true := by
        unfold roomOk
        rw [decide_eq_true (by omega), decide_eq_true (by omega)]
        rfl
      rw [this, Bool.true_and]
      exact ih (j + 1) (by omega)
theorem impl_rooms_ev (rs : List Int) (hl : rs.length ≤ 1000000000) : EvP (fun k => impl_roomsValid.f k rs) (· = roomsOk rs) := by
  unfold impl_roomsValid.f
  exact impl_rooms_l0 rs hl rs.length 0 (by omega)
theorem spec_rooms_l0 (rs : List Int) (hl : rs.length ≤ 1000000000) : ∀ (d j : Nat), j + d = rs.length → EvP (fun k => spec_l12Rooms.l0 k rs (j : Int)) (· = ((rs.drop j).all roomOk && decide ((rs.length : Int) ≤ 3))) := by
  intro d
  induction d with
  | zero =>
    intro j hj
    refine EvP.step (fun k => spec_l12Rooms.l0.eq_2 (k := k) ..) (EvP.no (by omega) (EvP.ret ?_))
    rw [List.drop_eq_nil_of_le (by omega)]
    rfl
  | succ d ih =>
    intro j hj
    have hlt : j < rs.length := by omega
    refine EvP.step (fun k => spec_l12Rooms.l0.eq_2 (k := k) ..) (EvP.yes (by omega) (EvP.yes (by omega) ?_))
    rw [rd_nat rs j hlt, w64 (by omega) (by omega), List.drop_eq_getElem_cons hlt, List.all_cons, l6In_eq]
    refine EvP.bind0 rfl (EvP.ite (fun h => ?_) (fun h => EvP.ret ?_))
    · rw [show roomOk rs[j] = true from h, Bool.true_and]
      exact ih (j + 1) (by omega)
    · rw [show roomOk rs[j] = false from Bool.eq_false_iff.mpr h]
      rfl
theorem spec_rooms_ev (rs : List Int) (hl : rs.length ≤ 1000000000) : EvP (fun k => spec_l12Rooms.f k rs) (· = roomsOk rs) := by
  unfold spec_l12Rooms.f
  exact spec_rooms_l0 rs hl rs.length 0 (by omega)
/-- A statement's mailbox is among so many. -/
def hasBox (m : Int) (s : S37) : Bool := !((s.f0 == 4 || s.f0 == 5) && decide (s.f2 ≥ m))
mutual
def bxS (m : Int) : S37 → Bool
  | ⟨a, b, c, e, l1, l2⟩ => hasBox m ⟨a, b, c, e, l1, l2⟩ && (bxSs m l1 && bxSs m l2)
def bxSs (m : Int) : List S37 → Bool
  | [] => true
  | x :: xs => bxS m x && bxSs m xs
end
theorem bxS_f (m : Int) (s : S37) : bxS m s = (hasBox m s && (bxSs m s.f4 && bxSs m s.f5)) := by
  cases s
  rw [bxS]
theorem bxSs_all (m : Int) : ∀ l : List S37, bxSs m l = l.all (bxS m)
  | [] => by rw [bxSs]; rfl
  | x :: xs => by rw [bxSs, bxSs_all m xs]; rfl
theorem spec_l12Boxes_ev (m : Int) : ∀ (c : Nat) (l : List S37), cSs l ≤ c → c ≤ 1000000000 → EvP (fun k => spec_l12Boxes.f k l m) (· = bxSs m l) := by
  intro c
  induction c with
  | zero =>
    intro l hl hc
    have := cSs_length l
    obtain rfl := List.eq_nil_of_length_eq_zero (show l.length = 0 by omega)
    exact EvP.step (fun k => spec_l12Boxes.f.eq_2 (k := k) ..) (EvP.step (fun k => spec_l12Boxes.l0.eq_2 (k := k) ..) (EvP.no (by simp) (EvP.ret (by rw [bxSs]))))
  | succ c ih =>
    intro l hl hc
    have hlen := cSs_length l
    have loop : ∀ (r j : Nat), j + r = l.length → EvP (fun k => spec_l12Boxes.l0 k l m (j : Int)) (· = bxSs m (l.drop j)) := by
      intro r
      induction r with
      | zero =>
        intro j hj
        refine EvP.step (fun k => spec_l12Boxes.l0.eq_2 (k := k) ..) (EvP.no (by omega) (EvP.ret ?_))
        rw [List.drop_eq_nil_of_le (by omega), bxSs]
      | succ r ih2 =>
        intro j hj
        have hlt : j < l.length := by omega
        have hm := cSs_mem l _ (List.getElem_mem hlt)
        have hcs := cS_f l[j]
        have hd : bxSs m (l.drop j) = (bxS m l[j] && bxSs m (l.drop (j + 1))) := by
          rw [List.drop_eq_getElem_cons hlt, bxSs]
        rw [hd, bxS_f]
        have j1 : ∀ b : Bool, (hasBox m l[j] = !b) → EvP (fun k => spec_l12Boxes.j1 k l m (j : Int) b l[j].f0 l[j].f1 l[j].f2 l[j].f3.f0 l[j].f3.f1 l[j].f3.f2 l[j].f4 l[j].f5) (· = (hasBox m l[j] && (bxSs m l[j].f4 && bxSs m l[j].f5) && bxSs m (l.drop (j + 1)))) := by
          intro b hb
          refine EvP.step (fun k => spec_l12Boxes.j1.eq_2 (k := k) ..) (EvP.ite (fun h => EvP.ret ?_) (fun h => ?_))
          · rw [hb, h]
            rfl
          · rw [hb, Bool.eq_false_iff.mpr h, w64 (n := (j : Int) + 1) (by omega) (by omega)]
            refine EvP.bindEq (ih _ (by omega) (by omega)) (EvP.ite (fun h4 => EvP.bindEq (ih _ (by omega) (by omega)) (EvP.ite (fun h5 => ?_) (fun h5 => EvP.ret ?_))) (fun h4 => EvP.ret ?_))
            · rw [h4, h5]
              exact ih2 (j + 1) (by omega)
            · rw [Bool.eq_false_iff.mpr h5]
              simp
            · rw [Bool.eq_false_iff.mpr h4]
              simp
        refine EvP.step (fun k => spec_l12Boxes.l0.eq_2 (k := k) ..) (EvP.yes (by omega) (EvP.yes (by omega) ?_))
        rw [rdS_nat l j hlt]
        refine EvP.ite (fun h4 => j1 _ ?_) (fun h4 => EvP.ite (fun h5 => j1 _ ?_) (fun h5 => j1 _ ?_))
        · simp [hasBox, h4]
        · simp [hasBox, h5]
        · simp [hasBox, h4, h5]
    refine EvP.step (fun k => spec_l12Boxes.f.eq_2 (k := k) ..) ?_
    exact loop l.length 0 (by omega)
theorem stS_boxes (m : Int) (h0 : 0 ≤ m) (h3 : m ≤ 3) (s : S37) : stS m s = (stS 3 s && hasBox m s) := by
  rw [Bool.eq_iff_iff, Bool.and_eq_true]
  unfold stS stOk restOk hasBox boxOk
  by_cases c4 : s.f0 = 4
  · simp only [c4]
    simp
    constructor
    · rintro ⟨a, ⟨b, c⟩, d⟩
      exact ⟨⟨a, ⟨b, by omega⟩, d⟩, by omega⟩
    · rintro ⟨⟨a, ⟨b, c⟩, d⟩, e⟩
      exact ⟨a, ⟨b, by omega⟩, d⟩
  · by_cases c5 : s.f0 = 5
    · simp only [c5]
      simp
      constructor
      · rintro ⟨a, ⟨b, c⟩, d⟩
        exact ⟨⟨a, ⟨b, by omega⟩, d⟩, by omega⟩
      · rintro ⟨⟨a, ⟨b, c⟩, d⟩, e⟩
        exact ⟨a, ⟨b, by omega⟩, d⟩
    · simp [c4, c5]
theorem okOne_boxes (m : Int) (h0 : 0 ≤ m) (h3 : m ≤ 3) : ∀ (d : Nat) (s : S37), okOne m d s = true ↔ (okOne 3 d s = true ∧ bxS m s = true)
  | 0, s => by
    simp only [okOne, Bool.and_eq_true, stS_boxes m h0 h3 s, bxS_f]
    constructor
    · rintro ⟨⟨a, b⟩, c⟩
      have hf := flat_cS a (fun e => by rw [(isBlk_iff s).mpr e] at c; cases c)
      rw [cS_f] at hf
      have l4 := cSs_length s.f4
      have l5 := cSs_length s.f5
      rw [List.eq_nil_of_length_eq_zero (show s.f4.length = 0 by omega), List.eq_nil_of_length_eq_zero (show s.f5.length = 0 by omega)]
      exact ⟨⟨a, c⟩, b, by rw [bxSs], by rw [bxSs]⟩
    · rintro ⟨⟨a, c⟩, b, _⟩
      exact ⟨⟨a, b⟩, c⟩
  | d + 1, s => by
    have ih : ∀ l : List S37, l.all (okOne m d) = true ↔ (l.all (okOne 3 d) = true ∧ bxSs m l = true) := by
      intro l
      rw [bxSs_all, List.all_eq_true, List.all_eq_true, List.all_eq_true]
      constructor
      · exact fun h => ⟨fun x hx => ((okOne_boxes m h0 h3 d x).mp (h x hx)).1, fun x hx => ((okOne_boxes m h0 h3 d x).mp (h x hx)).2⟩
      · exact fun h x hx => (okOne_boxes m h0 h3 d x).mpr ⟨h.1 x hx, h.2 x hx⟩
    simp only [okOne, Bool.and_eq_true, Bool.or_eq_true, stS_boxes m h0 h3 s, bxS_f, ih]
    cases hb : isBlk s with
    | true =>
      simp only [Bool.not_true, Bool.false_eq_true, false_or]
      constructor
      · rintro ⟨⟨a, b⟩, ⟨c1, c2⟩, d1, d2⟩
        exact ⟨⟨a, c1, d1⟩, b, c2, d2⟩
      · rintro ⟨⟨a, c1, d1⟩, b, c2, d2⟩
        exact ⟨⟨a, b⟩, ⟨c1, c2⟩, d1, d2⟩
    | false =>
      simp only [Bool.not_false, true_or, and_true]
      constructor
      · rintro ⟨a, b⟩
        have hf := flat_cS a (fun e => by rw [(isBlk_iff s).mpr e] at hb; cases hb)
        rw [cS_f] at hf
        have l4 := cSs_length s.f4
        have l5 := cSs_length s.f5
        rw [List.eq_nil_of_length_eq_zero (show s.f4.length = 0 by omega), List.eq_nil_of_length_eq_zero (show s.f5.length = 0 by omega)]
        exact ⟨a, b, by rw [bxSs], by rw [bxSs]⟩
      · rintro ⟨a, b, _⟩
        exact ⟨a, b⟩
theorem okT_boxes (m : Int) (h0 : 0 ≤ m) (h3 : m ≤ 3) (l : List S37) : okT m l = (okT 3 l && bxSs m l) := by
  rw [Bool.eq_iff_iff, Bool.and_eq_true, okT_iff, okT_iff, bxSs_all]
  unfold okL
  rw [List.all_eq_true, List.all_eq_true, List.all_eq_true]
  constructor
  · exact fun h => ⟨⟨fun x hx => ((okOne_boxes m h0 h3 3 x).mp (h.1 x hx)).1, h.2⟩, fun x hx => ((okOne_boxes m h0 h3 3 x).mp (h.1 x hx)).2⟩
  · exact fun h => ⟨fun x hx => (okOne_boxes m h0 h3 3 x).mpr ⟨h.1.1 x hx, h.2 x hx⟩, h.1.2⟩
/-- A program is valid. -/
def progOk (rs : List Int) (ts : List (List S37)) : Bool := roomsOk rs && (decide (1 ≤ ts.length) && decide (ts.length ≤ 3) && ts.all (okT (rs.length : Int)))
theorem rooms_len {rs : List Int} (h : roomsOk rs = true) : (0 : Int) ≤ rs.length ∧ (rs.length : Int) ≤ 3 := by
  unfold roomsOk at h
  rw [Bool.and_eq_true, decide_eq_true_eq] at h
  exact ⟨by omega, h.2⟩
def Smalls (ts : List (List S37)) : Prop := ts.length ≤ 1000000000 ∧ ∀ t ∈ ts, cSs t ≤ 1000000000
theorem impl_ProgramValid_ev (rs : List Int) (ts : List (List S37)) (hr : rs.length ≤ 1000000000) (ht : Smalls ts) : EvP (fun k => impl_ProgramValid.f k rs ts) (· = progOk rs ts) := by
  obtain ⟨hl, ht⟩ := ht
  have loop : roomsOk rs = true → ∀ (d j : Nat), j + d = ts.length → EvP (fun k => impl_ProgramValid.l0 k ts (ts.length : Int) (j : Int) rs ts) (· = (ts.drop j).all (okT (rs.length : Int))) := by
    intro hro d
    induction d with
    | zero =>
      intro j hj
      refine EvP.step (fun k => impl_ProgramValid.l0.eq_2 (k := k) ..) (EvP.no (by omega) (EvP.ret ?_))
      rw [List.drop_eq_nil_of_le (by omega)]
      rfl
    | succ d ih =>
      intro j hj
      have hlt : j < ts.length := by omega
      refine EvP.step (fun k => impl_ProgramValid.l0.eq_2 (k := k) ..) (EvP.yes (by omega) (EvP.yes (by omega) (EvP.yes (by omega) ?_)))
      rw [rdSS_nat ts j hlt, w64 (by omega) (by omega), List.drop_eq_getElem_cons hlt, List.all_cons]
      refine EvP.bindEq (impl_stmtsValid_ev _ _ (ht _ (List.getElem_mem hlt))) (EvP.ite (fun h => ?_) (fun h => EvP.ret ?_))
      · rw [h, Bool.true_and]
        exact ih (j + 1) (by omega)
      · rw [Bool.eq_false_iff.mpr h]
        rfl
  have j0 : ∀ b : Bool, (b = false → roomsOk rs = true ∧ 1 ≤ ts.length ∧ ts.length ≤ 3) → (b = true → progOk rs ts = false) → EvP (fun k => impl_ProgramValid.j0 k b rs ts) (· = progOk rs ts) := by
    intro b h1 h2
    refine EvP.step (fun k => impl_ProgramValid.j0.eq_2 (k := k) ..) (EvP.ite (fun h => EvP.ret (h2 h).symm) (fun h => ?_))
    obtain ⟨g1, g2, g3⟩ := h1 (Bool.eq_false_iff.mpr h)
    unfold progOk
    rw [g1, decide_eq_true g2, decide_eq_true g3]
    exact loop g1 ts.length 0 (by omega)
  unfold impl_ProgramValid.f
  refine EvP.bindEq (impl_rooms_ev rs hr) (EvP.ite (fun h => EvP.ite (fun h1 => j0 true (fun e => by cases e) (fun _ => ?_)) (fun h1 => j0 _ (fun e => ?_) (fun e => ?_))) (fun h => j0 true (fun e => by cases e) (fun _ => ?_)))
  · unfold progOk
    rw [decide_eq_false (by omega)]
    simp
  · have := of_decide_eq_false e
    exact ⟨h, by omega, by omega⟩
  · have := of_decide_eq_true e
    unfold progOk
    rw [decide_eq_false (p := ts.length ≤ 3) (by omega)]
    simp
  · unfold progOk
    rw [Bool.eq_false_iff.mpr h]
    rfl
theorem spec_ProgramValid_ev (rs : List Int) (ts : List (List S37)) (hr : rs.length ≤ 1000000000) (ht : Smalls ts) : EvP (fun k => spec_ProgramValid.f k rs ts) (· = progOk rs ts) := by
  obtain ⟨hl, ht⟩ := ht
  have loop : roomsOk rs = true → ∀ (d j : Nat), j + d = ts.length → EvP (fun k => spec_ProgramValid.l0 k (j : Int) rs ts) (· = (ts.drop j).all (okT (rs.length : Int))) := by
    intro hro d
    obtain ⟨r0, r3⟩ := rooms_len hro
    induction d with
    | zero =>
      intro j hj
      refine EvP.step (fun k => spec_ProgramValid.l0.eq_2 (k := k) ..) (EvP.no (by omega) (EvP.ret ?_))
      rw [List.drop_eq_nil_of_le (by omega)]
      rfl
    | succ d ih =>
      intro j hj
      have hlt : j < ts.length := by omega
      refine EvP.step (fun k => spec_ProgramValid.l0.eq_2 (k := k) ..) (EvP.yes (by omega) (EvP.yes (by omega) ?_))
      rw [rdSS_nat ts j hlt, w64 (by omega) (by omega), List.drop_eq_getElem_cons hlt, List.all_cons, okT_boxes _ r0 r3]
      refine EvP.bindEq (spec_StmtsValid_ev _ (ht _ (List.getElem_mem hlt))) (EvP.ite (fun h => EvP.bindEq (spec_l12Boxes_ev _ _ _ (ht _ (List.getElem_mem hlt)) (by omega)) (EvP.ite (fun h2 => ?_) (fun h2 => EvP.ret ?_))) (fun h => EvP.ret ?_))
      · rw [h, h2, Bool.true_and, Bool.true_and]
        exact ih (j + 1) (by omega)
      · rw [h, Bool.eq_false_iff.mpr h2]
        rfl
      · rw [Bool.eq_false_iff.mpr h]
        rfl
  have j0 : ∀ b : Bool, (b = false → roomsOk rs = true ∧ 1 ≤ ts.length ∧ ts.length ≤ 3) → (b = true → progOk rs ts = false) → EvP (fun k => spec_ProgramValid.j0 k b rs ts) (· = progOk rs ts) := by
    intro b h1 h2
    refine EvP.step (fun k => spec_ProgramValid.j0.eq_2 (k := k) ..) (EvP.ite (fun h => EvP.ret (h2 h).symm) (fun h => ?_))
    obtain ⟨g1, g2, g3⟩ := h1 (Bool.eq_false_iff.mpr h)
    unfold progOk
    rw [g1, decide_eq_true g2, decide_eq_true g3]
    exact loop g1 ts.length 0 (by omega)
  unfold spec_ProgramValid.f
  refine EvP.bindEq (spec_rooms_ev rs hr) (EvP.ite (fun h => ?_) (fun h => j0 true (fun e => by cases e) (fun _ => ?_)))
  · rw [l6In_eq]
    refine EvP.bind0 rfl (j0 _ (fun e => ?_) (fun e => ?_))
    · rw [Bool.not_eq_false', Bool.and_eq_true, decide_eq_true_eq, decide_eq_true_eq] at e
      exact ⟨h, by omega, by omega⟩
    · unfold progOk
      have e2 : (decide (1 ≤ ts.length) && decide (ts.length ≤ 3)) = false := by
        rw [Bool.eq_false_iff]
        intro q
        rw [Bool.and_eq_true, decide_eq_true_eq, decide_eq_true_eq] at q
        rw [decide_eq_true (by omega), decide_eq_true (by omega)] at e
        cases e
      rw [e2]
      simp
  · unfold progOk
    rw [Bool.eq_false_iff.mpr h]
    rfl
def sumC : List (List S37) → Nat
  | [] => 0
  | t :: ts => cSs t + sumC ts
theorem progOk_iff {rs : List Int} {ts : List (List S37)} : progOk rs ts = true ↔ roomsOk rs = true ∧ 1 ≤ ts.length ∧ ts.length ≤ 3 ∧ ∀ t ∈ ts, okT (rs.length : Int) t = true := by
  unfold progOk
  simp only [Bool.and_eq_true, decide_eq_true_eq, List.all_eq_true, and_assoc]
end Go.Proofs.Ytpcbfcaacilghaa.PA

/- The exact comparison's words on programs. -/
namespace Go.Proofs.Ytpcbfcaacilghaa.PA
open Go.RowKit Go.Proofs.YtpcbfcaacilghaaW.PrintWords Go.Proofs.YtpcbfcaacilghaaW.PrintMore Go.Proofs.Ytpcbfcaacilghaa.Core
def trSS (ts : List (List S89)) : List (List S37) := ts.map trSs
def cntSS : List (List S89) → Nat
  | [] => 0
  | t :: ts => cntSs t + 1 + cntSS ts
theorem cntSS_length : ∀ l : List (List S89), l.length ≤ cntSS l
  | [] => Nat.zero_le _
  | x :: xs => by
    have := cntSS_length xs
    rw [cntSS, List.length_cons]
    omega
theorem cntSS_mem : ∀ (l : List (List S89)) (x : List S89), x ∈ l → cntSs x ≤ cntSS l
  | y :: ys, x, h => by
    rw [cntSS]
    rcases List.mem_cons.1 h with rfl | h
    · omega
    · have := cntSS_mem ys x h
      omega
theorem cntSS_drop (l : List (List S89)) (i : Nat) (h : i < l.length) : cntSS (l.drop i) = cntSs l[i] + 1 + cntSS (l.drop (i + 1)) := by
  rw [List.drop_eq_getElem_cons h, cntSS]
theorem rdLSS_nat (l : List (List S89)) (i : Nat) (h : i < l.length) : rd_L7 l (i : Int) = l[i] := by
  unfold rd_L7
  rw [Int.toNat_natCast, List.getD_eq_getElem?_getD, List.getElem?_eq_getElem h]
  rfl
theorem szStmtSS_l0 (l : List (List S89)) (hl : l.length ≤ 1048576) (he : ∀ x ∈ l, x.length ≤ maxLen ∧ ∀ y ∈ x, WF89 y) :
    ∀ (d j : Nat) (n : Int), j + d = l.length → 0 ≤ n → n ≤ 1048576 → EvP (fun k => laws_szStmtSS.l0 k l n (j : Int)) (· = lefts (cntSS (l.drop j) - d) n) := by
  intro d
  induction d with
  | zero =>
    intro j n hj h0 h1
    refine EvP.step (fun k => laws_szStmtSS.l0.eq_2 (k := k) ..) (EvP.no (by omega) (EvP.ret ?_))
    rw [List.drop_eq_nil_of_le (by omega)]
    unfold lefts
    rw [if_pos (by simp [cntSS]; omega)]
    simp [cntSS]
  | succ d ih =>
    intro j n hj h0 h1
    have hlt : j < l.length := by omega
    have hc := cntSS_drop l j hlt
    have hd : d ≤ cntSS (l.drop (j + 1)) := by
      have := cntSS_length (l.drop (j + 1))
      rw [List.length_drop] at this
      omega
    obtain ⟨w1, w2⟩ := he _ (List.getElem_mem hlt)
    refine EvP.step (fun k => laws_szStmtSS.l0.eq_2 (k := k) ..) (EvP.yes (by omega) (EvP.yes (by omega) ?_))
    rw [rdLSS_nat l j hlt, w64 (n := (j : Int) + 1) (by omega) (by omega)]
    refine EvP.bindEq (szStmtS_ev _ w1 w2 n h0 h1) ?_
    by_cases h2 : (cntSs l[j] : Int) ≤ n
    · have e : lefts (cntSs l[j]) n = n - cntSs l[j] := if_pos h2
      rw [e]
      refine EvP.no (by omega) ?_
      refine (ih (j + 1) (n - cntSs l[j]) (by omega) (by omega) (by omega)).mono fun a ha => ?_
      rw [ha]
      unfold lefts
      by_cases h3 : ((cntSS (l.drop (j + 1)) - d : Nat) : Int) ≤ n - cntSs l[j]
      · rw [if_pos h3, if_pos (by omega)]
        omega
      · rw [if_neg h3, if_neg (by omega)]
    · have e : lefts (cntSs l[j]) n = -1 := if_neg h2
      rw [e]
      refine EvP.yes (by omega) (EvP.ret ?_)
      unfold lefts
      rw [if_neg (by omega)]
theorem szStmtSS_ev (l : List (List S89)) (hl : l.length ≤ maxLen) (he : ∀ x ∈ l, x.length ≤ maxLen ∧ ∀ y ∈ x, WF89 y) (n : Int) (h0 : 0 ≤ n) (h1 : n ≤ 1048576) :
    EvP (fun k => laws_szStmtSS.f k l n) (· = lefts (cntSS l) n) := by
  have hm : maxLen = 9223372036854775807 := rfl
  have hc := cntSS_length l
  unfold laws_szStmtSS.f
  rw [w64 (by omega) (by omega)]
  refine EvP.ite (fun h => EvP.ret ?_) (fun h => ?_)
  · unfold lefts
    rw [if_neg (by omega)]
  · refine (szStmtSS_l0 l (by omega) he l.length 0 (n - l.length) (by omega) (by omega) (by omega)).mono fun a ha => ?_
    rw [ha, List.drop_zero]
    unfold lefts
    by_cases h3 : ((cntSS l - l.length : Nat) : Int) ≤ n - l.length
    · rw [if_pos h3, if_pos (by omega)]
      omega
    · rw [if_neg h3, if_neg (by omega)]
theorem szProgram_ev (rs : List Int) (ts : List (List S89)) (hr : rs.length ≤ maxLen) (hl : ts.length ≤ maxLen) (he : ∀ x ∈ ts, x.length ≤ maxLen ∧ ∀ y ∈ x, WF89 y) :
    EvP (fun k => laws_szProgram.f k rs ts 1048576) (fun r => r < 0 ∨ (rs.length ≤ 1048576 ∧ cntSS ts ≤ 1048576)) := by
  have hm : maxLen = 9223372036854775807 := rfl
  unfold laws_szProgram.f
  refine EvP.bind0 (szIntS_eq rs 1048576 (by omega) (by omega) (by omega)) ?_
  by_cases h : (1048576 : Int) - rs.length < 0
  · rw [if_pos h]
    exact EvP.yes (by omega) (EvP.ret (.inl (by omega)))
  · rw [if_neg h]
    refine EvP.no h (EvP.bindEq (szStmtSS_ev ts hl he _ (by omega) (by omega)) (EvP.ite (fun h2 => EvP.ret (.inl (by omega))) (fun h2 => EvP.ret (.inr ⟨by omega, ?_⟩))))
    unfold lefts at h2
    by_cases h3 : (cntSS ts : Int) ≤ 1048576 - rs.length
    · omega
    · rw [if_neg h3] at h2
      omega
theorem toStmtSS_l0 (l : List (List S89)) (hl : l.length ≤ 1048576) (he : ∀ x ∈ l, cntSs x ≤ 1048576) :
    ∀ (d j : Nat) (m : List (List S37)), j + d = l.length → m.length = l.length → EvP (fun k => laws_toStmtSS.l0 k l m (j : Int)) (· = m.take j ++ trSS (l.drop j)) := by
  intro d
  induction d with
  | zero =>
    intro j m hj hm
    refine EvP.step (fun k => laws_toStmtSS.l0.eq_2 (k := k) ..) (EvP.no (by omega) (EvP.ret ?_))
    rw [List.drop_eq_nil_of_le (by omega), List.take_of_length_le (by omega)]
    simp [trSS]
  | succ d ih =>
    intro j m hj hm
    have hlt : j < l.length := by omega
    refine EvP.step (fun k => laws_toStmtSS.l0.eq_2 (k := k) ..) (EvP.yes (by omega) (EvP.yes (by omega) ?_))
    rw [rdLSS_nat l j hlt, w64 (n := (j : Int) + 1) (by omega) (by omega), Int.toNat_natCast]
    refine EvP.bindEq (toStmtS_ev _ (he _ (List.getElem_mem hlt))) (EvP.yes (by omega) ?_)
    refine (ih (j + 1) (m.set j (trSs l[j])) (by omega) (by rw [List.length_set]; exact hm)).mono fun a ha => ?_
    rw [ha, List.take_succ_eq_append_getElem (by rw [List.length_set]; omega), List.getElem_set_self, List.take_set_of_le (by omega), List.append_assoc, List.drop_eq_getElem_cons hlt]
    rfl
theorem toStmtSS_ev (l : List (List S89)) (hc : cntSS l ≤ 1048576) : EvP (fun k => laws_toStmtSS.f k l) (· = trSS l) := by
  have hl := cntSS_length l
  unfold laws_toStmtSS.f
  refine EvP.yes (by omega) (EvP.yes (by omega) ?_)
  exact toStmtSS_l0 l (by omega) (fun x hx => by have := cntSS_mem l x hx; omega) l.length 0 _ (by omega) (by rw [List.length_replicate]; omega)
theorem toProgram_ev (rs : List Int) (ts : List (List S89)) (hr : rs.length ≤ 1048576) (hc : cntSS ts ≤ 1048576) : EvP (fun k => laws_toProgram.f k rs ts) (· = (rs, trSS ts)) := by
  unfold laws_toProgram.f
  exact EvP.bindEq (toIntS_ev rs (by omega)) (EvP.bindEq (toStmtSS_ev ts hc) (EvP.ret rfl))
theorem eqStmtSS_l0 (l : List (List S89)) (hl : l.length ≤ 1048576) (he : ∀ x ∈ l, cntSs x ≤ 1048576) :
    ∀ (d j : Nat), j + d = l.length → EvP (fun k => laws_eqStmtSS.l0 k (trSS l) (trSS l) (j : Int)) (· = true) := by
  intro d
  have hlen : (trSS l).length = l.length := List.length_map ..
  induction d with
  | zero =>
    intro j hj
    exact EvP.step (fun k => laws_eqStmtSS.l0.eq_2 (k := k) ..) (EvP.no (by omega) (EvP.ret rfl))
  | succ d ih =>
    intro j hj
    have hlt : j < l.length := by omega
    refine EvP.step (fun k => laws_eqStmtSS.l0.eq_2 (k := k) ..) (EvP.yes (by omega) (EvP.yes (by omega) (EvP.yes (by omega) ?_)))
    rw [rdSS_nat _ j (by omega), w64 (n := (j : Int) + 1) (by omega) (by omega), show (trSS l)[j]'(by omega) = trSs l[j] from List.getElem_map ..]
    exact EvP.bindEq (eqStmtS_short _ (he _ (List.getElem_mem hlt))) (EvP.yes rfl (ih (j + 1) (by omega)))
theorem eqProgram_ev (rs : List Int) (ts : List (List S89)) (hr : rs.length ≤ 1048576) (hc : cntSS ts ≤ 1048576) : EvP (fun k => laws_eqProgram.f k rs (trSS ts) rs (trSS ts)) (· = true) := by
  have hl := cntSS_length ts
  unfold laws_eqProgram.f
  refine EvP.bindEq (eqIntS_ev rs rs (by omega)) (EvP.yes (by simp) (EvP.bindEq ?_ (EvP.yes rfl (EvP.ret rfl))))
  unfold laws_eqStmtSS.f
  exact EvP.yes rfl (eqStmtSS_l0 ts (by omega) (fun x hx => by have := cntSS_mem ts x hx; omega) ts.length 0 (by omega))
theorem smalls_trSS (ts : List (List S89)) (hc : cntSS ts ≤ 1048576) : Smalls (trSS ts) := by
  have hl := cntSS_length ts
  refine ⟨by rw [show (trSS ts).length = ts.length from List.length_map ..]; omega, fun t ht => ?_⟩
  obtain ⟨x, hx, rfl⟩ := List.mem_map.mp ht
  have h1 := cntSS_mem ts x hx
  have h2 := cSs_le x
  omega
end Go.Proofs.Ytpcbfcaacilghaa.PA

/- Programs: are there loops? -/
namespace Go.Proofs.Ytpcbfcaacilghaa.PA
open Go.RowKit Go.Proofs.YtpcbfcaacilghaaW.PrintWords Go.Proofs.YtpcbfcaacilghaaW.PrintMore Go.Proofs.Ytpcbfcaacilghaa.Core
mutual
def lpS : S37 → Bool
  | ⟨a, _, _, _, l1, l2⟩ => a == 3 || (lpSs l1 || lpSs l2)
def lpSs : List S37 → Bool
  | [] => false
  | x :: xs => lpS x || lpSs xs
end
theorem lpS_f (s : S37) : lpS s = (s.f0 == 3 || (lpSs s.f4 || lpSs s.f5)) := by
  cases s
  rw [lpS]
theorem hasLoop_ev : ∀ (c : Nat) (l : List S37), cSs l ≤ c → c ≤ 1000000000 → EvP (fun k => impl_hasLoop.f k l) (· = lpSs l) := by
  intro c
  induction c with
  | zero =>
    intro l hl hc
    have := cSs_length l
    obtain rfl := List.eq_nil_of_length_eq_zero (show l.length = 0 by omega)
    exact EvP.step (fun k => impl_hasLoop.f.eq_2 (k := k) ..) (EvP.step (fun k => impl_hasLoop.l0.eq_2 (k := k) ..) (EvP.no (by simp) (EvP.ret (by rw [lpSs]))))
  | succ c ih =>
    intro l hl hc
    have hlen := cSs_length l
    have loop : ∀ (r j : Nat), j + r = l.length → EvP (fun k => impl_hasLoop.l0 k l (j : Int)) (· = lpSs (l.drop j)) := by
      intro r
      induction r with
      | zero =>
        intro j hj
        refine EvP.step (fun k => impl_hasLoop.l0.eq_2 (k := k) ..) (EvP.no (by omega) (EvP.ret ?_))
        rw [List.drop_eq_nil_of_le (by omega), lpSs]
      | succ r ih2 =>
        intro j hj
        have hlt : j < l.length := by omega
        have hm := cSs_mem l _ (List.getElem_mem hlt)
        have hcs := cS_f l[j]
        have one : EvP (fun k => impl_hasLoop.one k l[j]) (· = lpS l[j]) := by
          rw [lpS_f]
          refine EvP.step (fun k => impl_hasLoop.one.eq_2 (k := k) ..) (EvP.ite (fun h => EvP.ret (by rw [beq_iff_eq.mpr h]; rfl)) (fun h => ?_))
          rw [beq_eq_false_iff_ne.mpr h, Bool.false_or]
          refine EvP.bindEq (ih _ (by omega) (by omega)) (EvP.ite (fun h4 => EvP.ret (by rw [h4]; rfl)) (fun h4 => ?_))
          rw [Bool.eq_false_iff.mpr h4, Bool.false_or]
          exact ih _ (by omega) (by omega)
        refine EvP.step (fun k => impl_hasLoop.l0.eq_2 (k := k) ..) (EvP.yes (by omega) (EvP.yes (by omega) ?_))
        rw [rdS_nat l j hlt, w64 (n := (j : Int) + 1) (by omega) (by omega), List.drop_eq_getElem_cons hlt, lpSs]
        refine EvP.bindEq one (EvP.ite (fun h => EvP.ret (by rw [h]; rfl)) (fun h => ?_))
        rw [Bool.eq_false_iff.mpr h, Bool.false_or]
        exact ih2 (j + 1) (by omega)
    exact EvP.step (fun k => impl_hasLoop.f.eq_2 (k := k) ..) (loop l.length 0 (by omega))
theorem l12Plain_ev : ∀ (c : Nat) (l : List S37), cSs l ≤ c → c ≤ 1000000000 → EvP (fun k => spec_l12Plain.f k l) (· = !lpSs l) := by
  intro c
  induction c with
  | zero =>
    intro l hl hc
    have := cSs_length l
    obtain rfl := List.eq_nil_of_length_eq_zero (show l.length = 0 by omega)
    exact EvP.step (fun k => spec_l12Plain.f.eq_2 (k := k) ..) (EvP.step (fun k => spec_l12Plain.l0.eq_2 (k := k) ..) (EvP.no (by simp) (EvP.ret (by rw [lpSs]; rfl))))
  | succ c ih =>
    intro l hl hc
    have hlen := cSs_length l
    have loop : ∀ (r j : Nat), j + r = l.length → EvP (fun k => spec_l12Plain.l0 k l (j : Int)) (· = !lpSs (l.drop j)) := by
      intro r
      induction r with
      | zero =>
        intro j hj
        refine EvP.step (fun k => spec_l12Plain.l0.eq_2 (k := k) ..) (EvP.no (by omega) (EvP.ret ?_))
        rw [List.drop_eq_nil_of_le (by omega), lpSs]
        rfl
      | succ r ih2 =>
        intro j hj
        have hlt : j < l.length := by omega
        have hm := cSs_mem l _ (List.getElem_mem hlt)
        have hcs := cS_f l[j]
        refine EvP.step (fun k => spec_l12Plain.l0.eq_2 (k := k) ..) (EvP.yes (by omega) (EvP.yes (by omega) ?_))
        rw [rdS_nat l j hlt, w64 (n := (j : Int) + 1) (by omega) (by omega), List.drop_eq_getElem_cons hlt, lpSs, lpS_f]
        refine EvP.ite (fun h => EvP.ret (by rw [beq_iff_eq.mpr h]; rfl)) (fun h => ?_)
        rw [beq_eq_false_iff_ne.mpr h, Bool.false_or]
        refine EvP.bindEq (ih _ (by omega) (by omega)) (EvP.ite (fun h4 => ?_) (fun h4 => EvP.ret ?_))
        · rw [Bool.not_eq_true'] at h4
          rw [h4, Bool.false_or]
          refine EvP.bindEq (ih _ (by omega) (by omega)) (EvP.ite (fun h5 => ?_) (fun h5 => EvP.ret ?_))
          · rw [Bool.not_eq_true'] at h5
            rw [h5, Bool.false_or]
            exact ih2 (j + 1) (by omega)
          · rw [Bool.not_eq_true, Bool.not_eq_false'] at h5
            rw [h5]
            rfl
        · rw [Bool.not_eq_true, Bool.not_eq_false'] at h4
          rw [h4]
          rfl
    exact EvP.step (fun k => spec_l12Plain.f.eq_2 (k := k) ..) (loop l.length 0 (by omega))
def plainP (rs : List Int) (ts : List (List S37)) : Bool := progOk rs ts && !(ts.any lpSs)
theorem impl_ProgramPlain_ev (rs : List Int) (ts : List (List S37)) (hr : rs.length ≤ 1000000000) (ht : Smalls ts) : EvP (fun k => impl_ProgramPlain.f k rs ts) (· = plainP rs ts) := by
  have loop : ∀ (d j : Nat), j + d = ts.length → EvP (fun k => impl_anyLoop.l0 k ts (j : Int)) (· = (ts.drop j).any lpSs) := by
    obtain ⟨hl, ht⟩ := ht
    intro d
    induction d with
    | zero =>
      intro j hj
      refine EvP.step (fun k => impl_anyLoop.l0.eq_2 (k := k) ..) (EvP.no (by omega) (EvP.ret ?_))
      rw [List.drop_eq_nil_of_le (by omega)]
      rfl
    | succ d ih =>
      intro j hj
      have hlt : j < ts.length := by omega
      refine EvP.step (fun k => impl_anyLoop.l0.eq_2 (k := k) ..) (EvP.yes (by omega) (EvP.yes (by omega) ?_))
      rw [rdSS_nat ts j hlt, w64 (by omega) (by omega), List.drop_eq_getElem_cons hlt, List.any_cons]
      refine EvP.bindEq (hasLoop_ev _ _ (ht _ (List.getElem_mem hlt)) (by omega)) (EvP.ite (fun h => EvP.ret (by rw [h]; rfl)) (fun h => ?_))
      rw [Bool.eq_false_iff.mpr h, Bool.false_or]
      exact ih (j + 1) (by omega)
  unfold impl_ProgramPlain.f plainP
  refine EvP.bindEq (impl_ProgramValid_ev rs ts hr ht) (EvP.ite (fun h => ?_) (fun h => EvP.ret (by rw [Bool.eq_false_iff.mpr h]; rfl)))
  refine EvP.bindEq (loop ts.length 0 (by omega)) (EvP.ret ?_)
  rw [h, List.drop_zero]
  rfl
theorem spec_ProgramPlain_ev (rs : List Int) (ts : List (List S37)) (hr : rs.length ≤ 1000000000) (ht : Smalls ts) : EvP (fun k => spec_ProgramPlain.f k rs ts) (· = plainP rs ts) := by
  have loop : ∀ (d j : Nat), j + d = ts.length → EvP (fun k => spec_ProgramPlain.l0 k (j : Int) rs ts) (· = !((ts.drop j).any lpSs)) := by
    obtain ⟨hl, ht⟩ := ht
    intro d
    induction d with
    | zero =>
      intro j hj
      refine EvP.step (fun k => spec_ProgramPlain.l0.eq_2 (k := k) ..) (EvP.no (by omega) (EvP.ret ?_))
      rw [List.drop_eq_nil_of_le (by omega)]
      rfl
    | succ d ih =>
      intro j hj
      have hlt : j < ts.length := by omega
      refine EvP.step (fun k => spec_ProgramPlain.l0.eq_2 (k := k) ..) (EvP.yes (by omega) (EvP.yes (by omega) ?_))
      rw [rdSS_nat ts j hlt, w64 (by omega) (by omega), List.drop_eq_getElem_cons hlt, List.any_cons]
      refine EvP.bindEq (l12Plain_ev _ _ (ht _ (List.getElem_mem hlt)) (by omega)) (EvP.ite (fun h => ?_) (fun h => EvP.ret ?_))
      · rw [Bool.not_eq_true'] at h
        rw [h, Bool.false_or]
        exact ih (j + 1) (by omega)
      · rw [Bool.not_eq_true, Bool.not_eq_false'] at h
        rw [h]
        rfl
  unfold spec_ProgramPlain.f plainP
  refine EvP.bindEq (spec_ProgramValid_ev rs ts hr ht) (EvP.ite (fun h => ?_) (fun h => EvP.ret (by rw [Bool.eq_false_iff.mpr h]; rfl)))
  rw [h, Bool.true_and]
  exact loop ts.length 0 (by omega)
end Go.Proofs.Ytpcbfcaacilghaa.PA

/- FnExactProgramPlain returns true for every program: no condition. -/
namespace Go.Proofs.Ytpcbfcaacilghaa.Pure
open Go.RowKit Go.Proofs.Ytpcbfcaacilghaa.PA Go.Proofs.YtpcbfcaacilghaaW.PrintWords Go.Proofs.YtpcbfcaacilghaaW.PrintLast Go.Proofs.YtpcbfcaacilghaaW.PrintMore Go.Proofs.Ytpcbfcaacilghaa.Core
theorem FnExactProgramPlain : laws_FnExactProgramPlain.Pure := by
  intro rs ts hr hl
  refine EvP.ends (r := true) ?_
  unfold laws_FnExactProgramPlain.f
  refine EvP.bind (szProgram_ev rs ts hr.1 hl.1 hl.2) fun n hn => EvP.ite (fun _ => EvP.ret rfl) (fun h => ?_)
  rcases hn with hn | ⟨h1, h2⟩
  · exact absurd hn h
  have hto := toProgram_ev rs ts h1 h2
  have hs := smalls_trSS ts h2
  refine EvP.bindEq hto (EvP.bindEq (spec_ProgramPlain_ev rs (trSS ts) (by omega) hs) (EvP.bindEq hto (EvP.bindEq (impl_ProgramPlain_ev rs (trSS ts) (by omega) hs) (EvP.no (by simp) (EvP.bindEq hto (EvP.bindEq (eqProgram_ev rs ts h1 h2) (EvP.yes rfl (EvP.ret rfl))))))))
end Go.Proofs.Ytpcbfcaacilghaa.Pure


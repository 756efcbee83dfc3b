/- Small words for the plain laws: what a function with rounds comes to, from some number of rounds on. -/
import Derived.Test.YtiakpoamjiodoaaV
namespace Go.Proofs.Ytiakpoamjiodoaa.Core
open Go.RowKit Go.Proofs.YtiakpoamjiodoaaW.PrintWords Go.Proofs.YtiakpoamjiodoaaW.PrintMore
section
variable {α β : Type} {g h : Nat → Option α} {P Q : α → Prop}
/-- From some number of rounds on it answers one and the same, of which P holds. -/
def EvP (g : Nat → Option α) (P : α → Prop) : Prop := ∃ r, Ev g r ∧ P r
theorem EvP.ret {r : α} (h : P r) : EvP (fun _ => some r) P := ⟨r, Ev.now r, h⟩
theorem EvP.mono (h : EvP g P) (k : ∀ a, P a → Q a) : EvP g Q := by
  obtain ⟨r, h1, h2⟩ := h
  exact ⟨r, h1, k r h2⟩
theorem EvP.bind {f : Nat → α → Option β} {R : β → Prop} (h : EvP g P) (k : ∀ a, P a → EvP (fun n => f n a) R) : EvP (fun n => (g n).bind (f n)) R := by
  obtain ⟨a, h1, h2⟩ := h
  obtain ⟨r, k1, k2⟩ := k a h2
  exact ⟨r, Ev.bind h1 k1, k2⟩
/-- A call that answers at once. -/
theorem EvP.bind0 {o : Option α} {a : α} {f : Nat → α → Option β} {R : β → Prop} (h : o = some a) (k : EvP (fun n => f n a) R) : EvP (fun n => o.bind (f n)) R := by
  subst h
  exact k
theorem EvP.ite {c : Prop} [Decidable c] (h1 : c → EvP g P) (h2 : ¬ c → EvP h P) : EvP (fun n => if c then g n else h n) P := by
  by_cases hc : c
  · simp only [if_pos hc]
    exact h1 hc
  · simp only [if_neg hc]
    exact h2 hc
theorem EvP.yes {c : Prop} [Decidable c] (hc : c) (h1 : EvP g P) : EvP (fun n => if c then g n else h n) P := by
  simp only [if_pos hc]
  exact h1
theorem EvP.no {c : Prop} [Decidable c] (hc : ¬ c) (h1 : EvP h P) : EvP (fun n => if c then g n else h n) P := by
  simp only [if_neg hc]
  exact h1
theorem EvP.step {f : Nat → Option α} (h : ∀ k, g (k + 1) = f k) (k : EvP f P) : EvP g P := by
  obtain ⟨r, h1, h2⟩ := k
  exact ⟨r, Ev.step h h1, h2⟩
theorem EvP.ends {r : α} (h : EvP g (· = r)) : ∃ k, g k = some r := by
  obtain ⟨a, h1, h2⟩ := h
  subst h2
  exact h1.rounds
theorem EvP.ev {r : α} (h : EvP g (· = r)) : Ev g r := by
  obtain ⟨a, h1, h2⟩ := h
  subst h2
  exact h1
theorem Ev.evp {r : α} (h : Ev g r) : EvP g (· = r) := ⟨r, h, rfl⟩
theorem EvP.congr {f : Nat → Option α} (h : ∀ k, g k = f k) (k : EvP f P) : EvP g P := by
  obtain ⟨r, h1, h2⟩ := k
  exact ⟨r, Ev.congr h h1, h2⟩
/-- At once, and as one way of a choice. -/
theorem EvP.of {o : Option α} {r : α} (h : o = some r) (hp : P r) : EvP (fun _ => o) P := by
  subst h
  exact EvP.ret hp
theorem EvP.bindEq {f : Nat → α → Option β} {R : β → Prop} {a : α} (h : EvP g (· = a)) (k : EvP (fun n => f n a) R) : EvP (fun n => (g n).bind (f n)) R :=
  EvP.bind h (fun b hb => by subst hb; exact k)
end
theorem w64 {n : Int} (h1 : -9223372036854775808 ≤ n) (h2 : n ≤ 9223372036854775807) : wrap64 n = n := by
  unfold wrap64
  omega
theorem rd_nat (xs : List Int) (i : Nat) (h : i < xs.length) : rd xs (i : Int) = xs[i] := by
  unfold rd
  rw [Int.toNat_natCast, List.getD_eq_getElem?_getD, List.getElem?_eq_getElem h]
  rfl
theorem rd_mem (xs : List Int) (i : Int) (h0 : 0 ≤ i) (h : i < xs.length) : rd xs i ∈ xs := by
  unfold rd
  rw [List.getD_eq_getElem?_getD, List.getElem?_eq_getElem (by omega)]
  exact List.getElem_mem _
theorem tm_range {a b : Int} (h0 : 0 ≤ a) (hb : 0 < b) : 0 ≤ Int.tmod a b ∧ Int.tmod a b < b := by
  rw [Int.tmod_eq_emod_of_nonneg h0]
  exact ⟨Int.emod_nonneg _ (by omega), Int.emod_lt_of_pos _ hb⟩
end Go.Proofs.Ytiakpoamjiodoaa.Core

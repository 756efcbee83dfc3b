/- What an argument's reading as data gives: a reading of the print's kinds (Kd.K), and what is known of its numbers and lengths. -/
import Derived.Test.YtiakpoamjiodoaaV
import Derived.Deep.Slices
import Derived.ChangeArms
import Derived.ChangeSame
import Derived.WideShapes
namespace Go.Proofs.Ytiakpoamjiodoaa.Open
open Go.ChangeShapes Go.WideShapes Go.RowKit Go.Proofs.YtiakpoamjiodoaaW.PrintWords
section
variable {H : Type} {enc : TypeId × Value → H} {P : Program} {w : World} {base : Nat} {spare : Nat → Bool} {held : Bool}
/-- Whatever reads at type t within fuel F reads as a d, of which G holds. -/
def Opn {α : Type} (enc : TypeId × Value → H) (P : Program) (w : World) (base : Nat) (spare : Nat → Bool) (held : Bool) (F : Nat) (t : TypeId) (d : Kd α) (G : α → Prop) : Prop :=
  ∀ f, f ≤ F → ∀ cs x, DataW.trod enc P w base spare held f t cs = some x → ∃ a, d.K w a cs ∧ G a
theorem Opn.le {α : Type} {F F' : Nat} {t : TypeId} {d : Kd α} {G : α → Prop} (h : Opn enc P w base spare held F t d G) (hf : F' ≤ F) : Opn enc P w base spare held F' t d G :=
  fun f hl => h f (Nat.le_trans hl hf)
theorem Opn.int {F : Nat} {t : TypeId} {k : IntKind} (hu : P.underlying t = some (.int k)) : Opn enc P w base spare held F t (Kd.int k) (fun n => (Lit.int k n).wf = true) := by
  intro f _ cs x h
  cases f with
  | zero => simp [DataW.trod] at h
  | succ n =>
    obtain ⟨m, rfl, hw⟩ : ∃ m, cs = [.int k m] ∧ (Lit.int k m).wf = true := by
      unfold DataW.trod at h
      rw [hu] at h
      split at h <;> simp_all
    exact ⟨m, rfl, hw⟩
/-- A list out of what each place has. -/
theorem collect {α : Type} {Q : Nat → α → Prop} : ∀ m, (∀ i, i < m → ∃ a, Q i a) → ∃ l : List α, l.length = m ∧ ∀ i p, l[i]? = some p → Q i p
  | 0, _ => ⟨[], rfl, fun i p h => by simp at h⟩
  | m + 1, h => by
    obtain ⟨l, hl, hq⟩ := collect m (fun i hi => h i (by omega))
    obtain ⟨a, ha⟩ := h m (by omega)
    refine ⟨l ++ [a], by simp [hl], fun i p hp => ?_⟩
    rcases Nat.lt_or_ge i l.length with hlt | hge
    · rw [List.getElem?_append_left hlt] at hp
      exact hq i p hp
    · rw [List.getElem?_append_right hge] at hp
      have hi : i - l.length = 0 := by
        rcases Nat.eq_zero_or_pos (i - l.length) with h0 | h0
        · exact h0
        · rw [List.getElem?_eq_none (by simp; omega)] at hp
          cases hp
      rw [hi] at hp
      simp at hp
      subst hp
      have : i = m := by omega
      subst this
      exact ha
theorem Opn.slice {α : Type} {F : Nat} {t e : TypeId} {d : Kd α} {G : α → Prop} (hu : P.underlying t = some (.slice e)) (hc : P.cellsOf e = d.sz) (h : ∀ F', F' < F → Opn enc P w base spare held F' e d G) :
    Opn enc P w base spare held F t (Kd.slice e d) (fun l => l.length ≤ maxLen ∧ ∀ x ∈ l, G x) := by
  intro f hfF cs x hx
  rcases DataW.trod_slice hu hx with ⟨rfl, _⟩ | ⟨a, len, cap, elems, rest, n, rfl, rfl, _, _, hl, hm, hlen, hel, _, _⟩
  · exact ⟨[], ⟨none, 0, rfl, Nat.le_refl _, rfl, by simp, fun hp => absurd hp (Nat.lt_irrefl 0)⟩, by simp, fun x hx => by simp at hx⟩
  · obtain ⟨l, hll, hq⟩ := collect (Q := fun i p => (∃ c, c.length = d.sz ∧ d.K w p c ∧ ∀ j u, c[j]? = some u → w.cell? (a.add (i * d.sz + j)) = some u) ∧ G p) len (fun i hi => by
      have h1 := hel i hi
      have h2 : elems[i]? = some (elems[i]'(by omega)) := List.getElem?_eq_getElem (by omega)
      rw [h2] at h1
      obtain ⟨c, hc1, hc2⟩ := Option.bind_eq_some_iff.1 h1
      obtain ⟨p, hp, hg⟩ := h n (by omega) n (Nat.le_refl _) c _ hc2
      obtain ⟨_, hcl, hat⟩ := World.cells?_some hc1
      refine ⟨p, ⟨c, d.K_len hp, hp, fun j u hj => ?_⟩, hg⟩
      have hjl : j < c.length := (List.getElem?_eq_some_iff.1 hj).1
      have h3 := hat j (by omega)
      rw [hj] at h3
      rw [← hc, ← Go.Deep.add_add]
      exact h3)
    have hml : maxLen = 9223372036854775807 := rfl
    refine ⟨l, ⟨some a, cap, by rw [hll], by omega, rfl, by omega, fun _ => ⟨a, rfl, fun j p hj => (hq j p hj).1⟩⟩, by omega, fun x hx => ?_⟩
    obtain ⟨i, hi, rfl⟩ := List.getElem_of_mem hx
    exact (hq i _ (List.getElem?_eq_getElem hi)).2
/-- A struct's field. -/
theorem field {α : Type} {n o s j : Nat} {t : TypeId} {fs : Array Field} {f : Field} {cs : List Value} {xs : List (DataW H × List MemPlace)} {d : Kd α} {G : α → Prop}
    (hg : ∀ (i : Nat) (f : Field), fs[i]? = some f → DataW.trod enc P w base spare held n f.type ((cs.drop f.offset).take (P.cellsOf f.type)) = xs[i]?) (hxl : xs.length = fs.size)
    (hj : fs[j]? = some f) (ho : f.offset = o) (hs : P.cellsOf f.type = s) (ht : f.type = t) (h : Opn enc P w base spare held n t d G) : ∃ a, d.K w a ((cs.drop o).take s) ∧ G a := by
  have h1 := hg j f hj
  have hjl : j < fs.size := (Array.getElem?_eq_some_iff.1 hj).1
  rw [List.getElem?_eq_getElem (by omega), ho, hs, ht] at h1
  exact h n (Nat.le_refl _) _ _ h1
/-- A list in its parts. -/
theorem parts_cons {o s o' : Nat} {cs c0 : List Value} (h : (cs.drop o).take s = c0) (ho : o + s = o') : cs.drop o = c0 ++ cs.drop o' := by
  rw [← h, ← ho, ← List.drop_drop, List.take_append_drop]
theorem parts_nil {o : Nat} {cs : List Value} (h : cs.length = o) : cs.drop o = [] := by rw [List.drop_eq_nil_iff]; omega
end
end Go.Proofs.Ytiakpoamjiodoaa.Open

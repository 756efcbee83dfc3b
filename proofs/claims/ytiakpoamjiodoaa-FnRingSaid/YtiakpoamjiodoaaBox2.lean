/- Mailboxes and rings: putting, taking, and the exact comparison's words. -/

import Derived.Test.YtiakpoamjiodoaaBox1
namespace Go.Proofs.Ytiakpoamjiodoaa.PA
open Go.RowKit Go.Proofs.YtiakpoamjiodoaaW.PrintWords Go.Proofs.Ytiakpoamjiodoaa.Core
def bput (r : Int) (l : List Int) (x : Int) : Int × List Int × Bool := if bxv r l = true ∧ vw x = true ∧ ¬ ((l.length : Int) = r) then (r, l ++ [x], true) else (0, [], false)
def btake (r : Int) (l : List Int) : Int × List Int × Int × Bool := if bxv r l = true ∧ ¬ ((l.length : Int) = 0) then (r, l.drop 1, rd l 0, true) else (0, [], 0, false)
def rput (r h n : Int) (s : List Int) (x : Int) : Int × Int × Int × List Int × Bool := if rgv r h n s = true ∧ vw x = true ∧ ¬ (n = r) then (r, h, n + 1, s.set ((h + n) % r).toNat x, true) else (0, 0, 0, [], false)
def rtake (r h n : Int) (s : List Int) : Int × Int × Int × List Int × Int × Bool := if rgv r h n s = true ∧ ¬ (n = 0) then (r, (h + 1) % r, n - 1, s, rd s h, true) else (0, 0, 0, [], 0, false)
theorem bput_length (r : Int) (l : List Int) (x : Int) (hl : l.length ≤ 2000000) : (bput r l x).2.1.length ≤ 1000000000 := by
  unfold bput
  split
  · dsimp only
    rw [List.length_append]
    simp
    omega
  · simp
theorem btake_length (r : Int) (l : List Int) (hl : l.length ≤ 2000000) : (btake r l).2.1.length ≤ 1000000000 := by
  unfold btake
  split
  · dsimp only
    rw [List.length_drop]
    omega
  · simp
theorem rput_length (r h n : Int) (s : List Int) (x : Int) (hl : s.length ≤ 2000000) : (rput r h n s x).2.2.2.1.length ≤ 1000000000 := by
  unfold rput
  split
  · dsimp only
    rw [List.length_set]
    omega
  · simp
end Go.Proofs.Ytiakpoamjiodoaa.PA

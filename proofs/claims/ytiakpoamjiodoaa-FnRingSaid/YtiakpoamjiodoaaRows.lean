/-
  No cell of these rows narrows 'for every input' (looked for: loops, veiled, ifaces, maps, wideKeys, modest, calm, conditions, laid).
  DERIVED. THE GIVEN ROWS OF THIS SEAT. 12 by the template 'for every input the law returns true; each argument reads behind the call as it read before'; 0 by the template 'total and deterministic' (their statements: YtiakpoamjiodoaaTotals.lean).
  GIVEN WITH THE SEED: the statements are not yours to turn. If you find one false, say at which input.
  Laid BY PROGRAM, IN A SANDBOX (cutbox-rows.mjs): the forced cells as the released guide's own fill.sh prints them over the translation a7fa545d9929ea25… (all of the seat's roots in one cut). By AI agents, Wed Nov 11 2026. No macro, syntax, notation, axiom, sorry.
-/
import Derived.Test.YtiakpoamjiodoaaChecked
import GoSem.Claim
import GoSem.ClaimJoined
import GoSem.ClaimMapViews
import Derived.JoinedTies
import Derived.KernelRfl
namespace Go.Proofs.Ytiakpoamjiodoaa
/- THE CELL 'sum', in the pinned program and in every row, IS THE sha256 OF THE DUMP (.gsa) THAT YtiakpoamjiodoaaProg.lean LOADS. Nothing in Lean hashes anything: it is a label: what it is worth is what the hold of that sum in a sandbox is worth. -/
noncomputable def Try.pinned : Pinned := { name := "ytiakpoamjiodoaa", sum := "a7fa545d9929ea25924ed95b2ec7abe1c14aa8a637206ecfdc1976f5c9fc1f5c", checked := Try.checked }
namespace Rows
def none {H : Type} : Left H := { results := [], args := [] }

/-- 'laws.FnExactRingNew': WHATEVER THE INPUT: true; the input reads as it did. -/
def fnExactRingNewSpec : ChangeSpec := { name := "fnExactRingNew", fn := fun _ => fun
  | [d] => { results := [.lit (.bool true)], args := [d] }
  | _ => none }
def fnExactRingNewRow : OpenClaim := { program := "ytiakpoamjiodoaa", sum := "a7fa545d9929ea25924ed95b2ec7abe1c14aa8a637206ecfdc1976f5c9fc1f5c", func := "loop.example/cothreads/laws.FnExactRingNew", spec := "fnExactRingNew", apart := false }
def FnExactRingNewSaid : Prop := fnExactRingNewRow.holds Try.pinned (OpenSpec.ofChange fnExactRingNewSpec)

/-- ITS FALSE NEIGHBOUR: 'it returns false'. Refute it at one input. -/
def fnExactRingNewWrong : ChangeSpec := { name := "fnExactRingNew", fn := fun _ => fun
  | [d] => { results := [.lit (.bool false)], args := [d] }
  | _ => none }
def FnExactRingNewWrongFalsely : Prop := fnExactRingNewRow.holds Try.pinned (OpenSpec.ofChange fnExactRingNewWrong)

/-- 'laws.FnRingNew': WHATEVER THE INPUT: true; the input reads as it did. -/
def fnRingNewSpec : ChangeSpec := { name := "fnRingNew", fn := fun _ => fun
  | [d] => { results := [.lit (.bool true)], args := [d] }
  | _ => none }
def fnRingNewRow : OpenClaim := { program := "ytiakpoamjiodoaa", sum := "a7fa545d9929ea25924ed95b2ec7abe1c14aa8a637206ecfdc1976f5c9fc1f5c", func := "loop.example/cothreads/laws.FnRingNew", spec := "fnRingNew", apart := false }
def FnRingNewSaid : Prop := fnRingNewRow.holds Try.pinned (OpenSpec.ofChange fnRingNewSpec)

/-- ITS FALSE NEIGHBOUR: 'it returns false'. Refute it at one input. -/
def fnRingNewWrong : ChangeSpec := { name := "fnRingNew", fn := fun _ => fun
  | [d] => { results := [.lit (.bool false)], args := [d] }
  | _ => none }
def FnRingNewWrongFalsely : Prop := fnRingNewRow.holds Try.pinned (OpenSpec.ofChange fnRingNewWrong)

/-- 'laws.FnExactBoxValid': WHATEVER THE INPUT: true; the input reads as it did. -/
def fnExactBoxValidSpec : ChangeSpec := { name := "fnExactBoxValid", fn := fun _ => fun
  | [d] => { results := [.lit (.bool true)], args := [d] }
  | _ => none }
def fnExactBoxValidRow : OpenClaim := { program := "ytiakpoamjiodoaa", sum := "a7fa545d9929ea25924ed95b2ec7abe1c14aa8a637206ecfdc1976f5c9fc1f5c", func := "loop.example/cothreads/laws.FnExactBoxValid", spec := "fnExactBoxValid", apart := false }
def FnExactBoxValidSaid : Prop := fnExactBoxValidRow.holds Try.pinned (OpenSpec.ofChange fnExactBoxValidSpec)

/-- ITS FALSE NEIGHBOUR: 'it returns false'. Refute it at one input. -/
def fnExactBoxValidWrong : ChangeSpec := { name := "fnExactBoxValid", fn := fun _ => fun
  | [d] => { results := [.lit (.bool false)], args := [d] }
  | _ => none }
def FnExactBoxValidWrongFalsely : Prop := fnExactBoxValidRow.holds Try.pinned (OpenSpec.ofChange fnExactBoxValidWrong)

/-- 'laws.FnExactRingValid': WHATEVER THE INPUT: true; the input reads as it did. -/
def fnExactRingValidSpec : ChangeSpec := { name := "fnExactRingValid", fn := fun _ => fun
  | [d] => { results := [.lit (.bool true)], args := [d] }
  | _ => none }
def fnExactRingValidRow : OpenClaim := { program := "ytiakpoamjiodoaa", sum := "a7fa545d9929ea25924ed95b2ec7abe1c14aa8a637206ecfdc1976f5c9fc1f5c", func := "loop.example/cothreads/laws.FnExactRingValid", spec := "fnExactRingValid", apart := false }
def FnExactRingValidSaid : Prop := fnExactRingValidRow.holds Try.pinned (OpenSpec.ofChange fnExactRingValidSpec)

/-- ITS FALSE NEIGHBOUR: 'it returns false'. Refute it at one input. -/
def fnExactRingValidWrong : ChangeSpec := { name := "fnExactRingValid", fn := fun _ => fun
  | [d] => { results := [.lit (.bool false)], args := [d] }
  | _ => none }
def FnExactRingValidWrongFalsely : Prop := fnExactRingValidRow.holds Try.pinned (OpenSpec.ofChange fnExactRingValidWrong)

/-- 'laws.FnRingRound': WHATEVER THE INPUT: true; the input reads as it did. -/
def fnRingRoundSpec : ChangeSpec := { name := "fnRingRound", fn := fun _ => fun
  | [d] => { results := [.lit (.bool true)], args := [d] }
  | _ => none }
def fnRingRoundRow : OpenClaim := { program := "ytiakpoamjiodoaa", sum := "a7fa545d9929ea25924ed95b2ec7abe1c14aa8a637206ecfdc1976f5c9fc1f5c", func := "loop.example/cothreads/laws.FnRingRound", spec := "fnRingRound", apart := false }
def FnRingRoundSaid : Prop := fnRingRoundRow.holds Try.pinned (OpenSpec.ofChange fnRingRoundSpec)

/-- ITS FALSE NEIGHBOUR: 'it returns false'. Refute it at one input. -/
def fnRingRoundWrong : ChangeSpec := { name := "fnRingRound", fn := fun _ => fun
  | [d] => { results := [.lit (.bool false)], args := [d] }
  | _ => none }
def FnRingRoundWrongFalsely : Prop := fnRingRoundRow.holds Try.pinned (OpenSpec.ofChange fnRingRoundWrong)

/-- 'laws.FnBox': WHATEVER THE INPUT: true; the input reads as it did. -/
def fnBoxSpec : ChangeSpec := { name := "fnBox", fn := fun _ => fun
  | [d1, d2] => { results := [.lit (.bool true)], args := [d1, d2] }
  | _ => none }
def fnBoxRow : OpenClaim := { program := "ytiakpoamjiodoaa", sum := "a7fa545d9929ea25924ed95b2ec7abe1c14aa8a637206ecfdc1976f5c9fc1f5c", func := "loop.example/cothreads/laws.FnBox", spec := "fnBox", apart := false }
def FnBoxSaid : Prop := fnBoxRow.holds Try.pinned (OpenSpec.ofChange fnBoxSpec)

/-- ITS FALSE NEIGHBOUR: 'it returns false'. Refute it at one input. -/
def fnBoxWrong : ChangeSpec := { name := "fnBox", fn := fun _ => fun
  | [d1, d2] => { results := [.lit (.bool false)], args := [d1, d2] }
  | _ => none }
def FnBoxWrongFalsely : Prop := fnBoxRow.holds Try.pinned (OpenSpec.ofChange fnBoxWrong)

/-- 'laws.FnRing': WHATEVER THE INPUT: true; the input reads as it did. -/
def fnRingSpec : ChangeSpec := { name := "fnRing", fn := fun _ => fun
  | [d] => { results := [.lit (.bool true)], args := [d] }
  | _ => none }
def fnRingRow : OpenClaim := { program := "ytiakpoamjiodoaa", sum := "a7fa545d9929ea25924ed95b2ec7abe1c14aa8a637206ecfdc1976f5c9fc1f5c", func := "loop.example/cothreads/laws.FnRing", spec := "fnRing", apart := false }
def FnRingSaid : Prop := fnRingRow.holds Try.pinned (OpenSpec.ofChange fnRingSpec)

/-- ITS FALSE NEIGHBOUR: 'it returns false'. Refute it at one input. -/
def fnRingWrong : ChangeSpec := { name := "fnRing", fn := fun _ => fun
  | [d] => { results := [.lit (.bool false)], args := [d] }
  | _ => none }
def FnRingWrongFalsely : Prop := fnRingRow.holds Try.pinned (OpenSpec.ofChange fnRingWrong)

/-- 'laws.FnExactBoxPut': WHATEVER THE INPUT: true; the input reads as it did. -/
def fnExactBoxPutSpec : ChangeSpec := { name := "fnExactBoxPut", fn := fun _ => fun
  | [d1, d2] => { results := [.lit (.bool true)], args := [d1, d2] }
  | _ => none }
def fnExactBoxPutRow : OpenClaim := { program := "ytiakpoamjiodoaa", sum := "a7fa545d9929ea25924ed95b2ec7abe1c14aa8a637206ecfdc1976f5c9fc1f5c", func := "loop.example/cothreads/laws.FnExactBoxPut", spec := "fnExactBoxPut", apart := false }
def FnExactBoxPutSaid : Prop := fnExactBoxPutRow.holds Try.pinned (OpenSpec.ofChange fnExactBoxPutSpec)

/-- ITS FALSE NEIGHBOUR: 'it returns false'. Refute it at one input. -/
def fnExactBoxPutWrong : ChangeSpec := { name := "fnExactBoxPut", fn := fun _ => fun
  | [d1, d2] => { results := [.lit (.bool false)], args := [d1, d2] }
  | _ => none }
def FnExactBoxPutWrongFalsely : Prop := fnExactBoxPutRow.holds Try.pinned (OpenSpec.ofChange fnExactBoxPutWrong)

/-- 'laws.FnExactBoxTake': WHATEVER THE INPUT: true; the input reads as it did. -/
def fnExactBoxTakeSpec : ChangeSpec := { name := "fnExactBoxTake", fn := fun _ => fun
  | [d] => { results := [.lit (.bool true)], args := [d] }
  | _ => none }
def fnExactBoxTakeRow : OpenClaim := { program := "ytiakpoamjiodoaa", sum := "a7fa545d9929ea25924ed95b2ec7abe1c14aa8a637206ecfdc1976f5c9fc1f5c", func := "loop.example/cothreads/laws.FnExactBoxTake", spec := "fnExactBoxTake", apart := false }
def FnExactBoxTakeSaid : Prop := fnExactBoxTakeRow.holds Try.pinned (OpenSpec.ofChange fnExactBoxTakeSpec)

/-- ITS FALSE NEIGHBOUR: 'it returns false'. Refute it at one input. -/
def fnExactBoxTakeWrong : ChangeSpec := { name := "fnExactBoxTake", fn := fun _ => fun
  | [d] => { results := [.lit (.bool false)], args := [d] }
  | _ => none }
def FnExactBoxTakeWrongFalsely : Prop := fnExactBoxTakeRow.holds Try.pinned (OpenSpec.ofChange fnExactBoxTakeWrong)

/-- 'laws.FnRingBox': WHATEVER THE INPUT: true; the input reads as it did. -/
def fnRingBoxSpec : ChangeSpec := { name := "fnRingBox", fn := fun _ => fun
  | [d] => { results := [.lit (.bool true)], args := [d] }
  | _ => none }
def fnRingBoxRow : OpenClaim := { program := "ytiakpoamjiodoaa", sum := "a7fa545d9929ea25924ed95b2ec7abe1c14aa8a637206ecfdc1976f5c9fc1f5c", func := "loop.example/cothreads/laws.FnRingBox", spec := "fnRingBox", apart := false }
def FnRingBoxSaid : Prop := fnRingBoxRow.holds Try.pinned (OpenSpec.ofChange fnRingBoxSpec)

/-- ITS FALSE NEIGHBOUR: 'it returns false'. Refute it at one input. -/
def fnRingBoxWrong : ChangeSpec := { name := "fnRingBox", fn := fun _ => fun
  | [d] => { results := [.lit (.bool false)], args := [d] }
  | _ => none }
def FnRingBoxWrongFalsely : Prop := fnRingBoxRow.holds Try.pinned (OpenSpec.ofChange fnRingBoxWrong)

/-- 'laws.FnTake': WHATEVER THE INPUT: true; the input reads as it did. -/
def fnTakeSpec : ChangeSpec := { name := "fnTake", fn := fun _ => fun
  | [d] => { results := [.lit (.bool true)], args := [d] }
  | _ => none }
def fnTakeRow : OpenClaim := { program := "ytiakpoamjiodoaa", sum := "a7fa545d9929ea25924ed95b2ec7abe1c14aa8a637206ecfdc1976f5c9fc1f5c", func := "loop.example/cothreads/laws.FnTake", spec := "fnTake", apart := false }
def FnTakeSaid : Prop := fnTakeRow.holds Try.pinned (OpenSpec.ofChange fnTakeSpec)

/-- ITS FALSE NEIGHBOUR: 'it returns false'. Refute it at one input. -/
def fnTakeWrong : ChangeSpec := { name := "fnTake", fn := fun _ => fun
  | [d] => { results := [.lit (.bool false)], args := [d] }
  | _ => none }
def FnTakeWrongFalsely : Prop := fnTakeRow.holds Try.pinned (OpenSpec.ofChange fnTakeWrong)

/-- 'laws.FnExactRingPut': WHATEVER THE INPUT: true; the input reads as it did. -/
def fnExactRingPutSpec : ChangeSpec := { name := "fnExactRingPut", fn := fun _ => fun
  | [d1, d2] => { results := [.lit (.bool true)], args := [d1, d2] }
  | _ => none }
def fnExactRingPutRow : OpenClaim := { program := "ytiakpoamjiodoaa", sum := "a7fa545d9929ea25924ed95b2ec7abe1c14aa8a637206ecfdc1976f5c9fc1f5c", func := "loop.example/cothreads/laws.FnExactRingPut", spec := "fnExactRingPut", apart := false }
def FnExactRingPutSaid : Prop := fnExactRingPutRow.holds Try.pinned (OpenSpec.ofChange fnExactRingPutSpec)

/-- ITS FALSE NEIGHBOUR: 'it returns false'. Refute it at one input. -/
def fnExactRingPutWrong : ChangeSpec := { name := "fnExactRingPut", fn := fun _ => fun
  | [d1, d2] => { results := [.lit (.bool false)], args := [d1, d2] }
  | _ => none }
def FnExactRingPutWrongFalsely : Prop := fnExactRingPutRow.holds Try.pinned (OpenSpec.ofChange fnExactRingPutWrong)

/- THE SECOND FORM. 'bulk': how many values and letters a reading holds, each counted each time it is reached (what is shared counts as often as it is met; a slice's spare places count too). A statement '..UptoSaid' is the law's where the arguments, and the package variables that the reading takes, are together of bulk at most 1048576: NARROWER than '..Said'. Prove '..Said' where nothing that the law and all that it calls make is longer than what came in: it says more and counts as full. Else prove '..UptoSaid'. A law counts once. -/
mutual
def uptoBulk {H : Type} : DataW H → Nat
  | .lit (.string bytes) => bytes.length + 1
  | .lit _ => 1
  | .nil => 1
  | .ptr d => uptoBulk d + 1
  | .slice elems spare => uptoBulkAll elems + uptoBulkAll spare + 1
  | .agg parts => uptoBulkAll parts + 1
  | .iface _ d => uptoBulk d + 1
  | .map entries => uptoBulkEntries entries + 1
  | .held _ => 1
def uptoBulkAll {H : Type} : List (DataW H) → Nat
  | [] => 0
  | d :: r => uptoBulk d + uptoBulkAll r
def uptoBulkEntries {H : Type} : List (Lit × DataW H) → Nat
  | [] => 0
  | x :: r => uptoBulkEntry x + uptoBulkEntries r
def uptoBulkEntry {H : Type} : Lit × DataW H → Nat
  | (.string bytes, d) => bytes.length + uptoBulk d + 1
  | (_, d) => uptoBulk d + 1
 end
def uptoSmall : (H : Type) → List (DataW H) → Bool := fun _ ds => decide (uptoBulkAll ds ≤ 1048576)
def OpenSpec.upto (s : _root_.Go.ChangeSpec) : _root_.Go.OpenSpec := { _root_.Go.OpenSpec.ofChange s with cond := some uptoSmall }

/-- 'laws.FnExactRingNew', WHERE WHAT IT READS IS OF BULK AT MOST 1048576: true; the input reads as it did. -/
def fnExactRingNewUptoRow : OpenClaim := { program := "ytiakpoamjiodoaa", sum := "a7fa545d9929ea25924ed95b2ec7abe1c14aa8a637206ecfdc1976f5c9fc1f5c", func := "loop.example/cothreads/laws.FnExactRingNew", spec := "fnExactRingNew", apart := false, narrowed := true }
def FnExactRingNewUptoSaid : Prop := fnExactRingNewUptoRow.holds Try.pinned (OpenSpec.upto fnExactRingNewSpec)

/-- 'laws.FnRingNew', WHERE WHAT IT READS IS OF BULK AT MOST 1048576: true; the input reads as it did. -/
def fnRingNewUptoRow : OpenClaim := { program := "ytiakpoamjiodoaa", sum := "a7fa545d9929ea25924ed95b2ec7abe1c14aa8a637206ecfdc1976f5c9fc1f5c", func := "loop.example/cothreads/laws.FnRingNew", spec := "fnRingNew", apart := false, narrowed := true }
def FnRingNewUptoSaid : Prop := fnRingNewUptoRow.holds Try.pinned (OpenSpec.upto fnRingNewSpec)

/-- 'laws.FnExactBoxValid', WHERE WHAT IT READS IS OF BULK AT MOST 1048576: true; the input reads as it did. -/
def fnExactBoxValidUptoRow : OpenClaim := { program := "ytiakpoamjiodoaa", sum := "a7fa545d9929ea25924ed95b2ec7abe1c14aa8a637206ecfdc1976f5c9fc1f5c", func := "loop.example/cothreads/laws.FnExactBoxValid", spec := "fnExactBoxValid", apart := false, narrowed := true }
def FnExactBoxValidUptoSaid : Prop := fnExactBoxValidUptoRow.holds Try.pinned (OpenSpec.upto fnExactBoxValidSpec)

/-- 'laws.FnExactRingValid', WHERE WHAT IT READS IS OF BULK AT MOST 1048576: true; the input reads as it did. -/
def fnExactRingValidUptoRow : OpenClaim := { program := "ytiakpoamjiodoaa", sum := "a7fa545d9929ea25924ed95b2ec7abe1c14aa8a637206ecfdc1976f5c9fc1f5c", func := "loop.example/cothreads/laws.FnExactRingValid", spec := "fnExactRingValid", apart := false, narrowed := true }
def FnExactRingValidUptoSaid : Prop := fnExactRingValidUptoRow.holds Try.pinned (OpenSpec.upto fnExactRingValidSpec)

/-- 'laws.FnRingRound', WHERE WHAT IT READS IS OF BULK AT MOST 1048576: true; the input reads as it did. -/
def fnRingRoundUptoRow : OpenClaim := { program := "ytiakpoamjiodoaa", sum := "a7fa545d9929ea25924ed95b2ec7abe1c14aa8a637206ecfdc1976f5c9fc1f5c", func := "loop.example/cothreads/laws.FnRingRound", spec := "fnRingRound", apart := false, narrowed := true }
def FnRingRoundUptoSaid : Prop := fnRingRoundUptoRow.holds Try.pinned (OpenSpec.upto fnRingRoundSpec)

/-- 'laws.FnBox', WHERE WHAT IT READS IS OF BULK AT MOST 1048576: true; the input reads as it did. -/
def fnBoxUptoRow : OpenClaim := { program := "ytiakpoamjiodoaa", sum := "a7fa545d9929ea25924ed95b2ec7abe1c14aa8a637206ecfdc1976f5c9fc1f5c", func := "loop.example/cothreads/laws.FnBox", spec := "fnBox", apart := false, narrowed := true }
def FnBoxUptoSaid : Prop := fnBoxUptoRow.holds Try.pinned (OpenSpec.upto fnBoxSpec)

/-- 'laws.FnRing', WHERE WHAT IT READS IS OF BULK AT MOST 1048576: true; the input reads as it did. -/
def fnRingUptoRow : OpenClaim := { program := "ytiakpoamjiodoaa", sum := "a7fa545d9929ea25924ed95b2ec7abe1c14aa8a637206ecfdc1976f5c9fc1f5c", func := "loop.example/cothreads/laws.FnRing", spec := "fnRing", apart := false, narrowed := true }
def FnRingUptoSaid : Prop := fnRingUptoRow.holds Try.pinned (OpenSpec.upto fnRingSpec)

/-- 'laws.FnExactBoxPut', WHERE WHAT IT READS IS OF BULK AT MOST 1048576: true; the input reads as it did. -/
def fnExactBoxPutUptoRow : OpenClaim := { program := "ytiakpoamjiodoaa", sum := "a7fa545d9929ea25924ed95b2ec7abe1c14aa8a637206ecfdc1976f5c9fc1f5c", func := "loop.example/cothreads/laws.FnExactBoxPut", spec := "fnExactBoxPut", apart := false, narrowed := true }
def FnExactBoxPutUptoSaid : Prop := fnExactBoxPutUptoRow.holds Try.pinned (OpenSpec.upto fnExactBoxPutSpec)

/-- 'laws.FnExactBoxTake', WHERE WHAT IT READS IS OF BULK AT MOST 1048576: true; the input reads as it did. -/
def fnExactBoxTakeUptoRow : OpenClaim := { program := "ytiakpoamjiodoaa", sum := "a7fa545d9929ea25924ed95b2ec7abe1c14aa8a637206ecfdc1976f5c9fc1f5c", func := "loop.example/cothreads/laws.FnExactBoxTake", spec := "fnExactBoxTake", apart := false, narrowed := true }
def FnExactBoxTakeUptoSaid : Prop := fnExactBoxTakeUptoRow.holds Try.pinned (OpenSpec.upto fnExactBoxTakeSpec)

/-- 'laws.FnRingBox', WHERE WHAT IT READS IS OF BULK AT MOST 1048576: true; the input reads as it did. -/
def fnRingBoxUptoRow : OpenClaim := { program := "ytiakpoamjiodoaa", sum := "a7fa545d9929ea25924ed95b2ec7abe1c14aa8a637206ecfdc1976f5c9fc1f5c", func := "loop.example/cothreads/laws.FnRingBox", spec := "fnRingBox", apart := false, narrowed := true }
def FnRingBoxUptoSaid : Prop := fnRingBoxUptoRow.holds Try.pinned (OpenSpec.upto fnRingBoxSpec)

/-- 'laws.FnTake', WHERE WHAT IT READS IS OF BULK AT MOST 1048576: true; the input reads as it did. -/
def fnTakeUptoRow : OpenClaim := { program := "ytiakpoamjiodoaa", sum := "a7fa545d9929ea25924ed95b2ec7abe1c14aa8a637206ecfdc1976f5c9fc1f5c", func := "loop.example/cothreads/laws.FnTake", spec := "fnTake", apart := false, narrowed := true }
def FnTakeUptoSaid : Prop := fnTakeUptoRow.holds Try.pinned (OpenSpec.upto fnTakeSpec)

/-- 'laws.FnExactRingPut', WHERE WHAT IT READS IS OF BULK AT MOST 1048576: true; the input reads as it did. -/
def fnExactRingPutUptoRow : OpenClaim := { program := "ytiakpoamjiodoaa", sum := "a7fa545d9929ea25924ed95b2ec7abe1c14aa8a637206ecfdc1976f5c9fc1f5c", func := "loop.example/cothreads/laws.FnExactRingPut", spec := "fnExactRingPut", apart := false, narrowed := true }
def FnExactRingPutUptoSaid : Prop := fnExactRingPutUptoRow.holds Try.pinned (OpenSpec.upto fnExactRingPutSpec)

end Rows
end Go.Proofs.Ytiakpoamjiodoaa

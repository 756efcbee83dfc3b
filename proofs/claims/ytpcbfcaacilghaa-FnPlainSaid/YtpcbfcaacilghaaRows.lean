/-
  NARROWER THAN 'FOR EVERY INPUT', by the rows' own cells (each row's printed sentence says how): FnExactProgramValid: loops · FnExactProgramSize: loops · FnExactProgramPlain: loops.
  DERIVED. THE GIVEN ROWS OF THIS SEAT. 10 by the template 'for every input the law returns true; each argument reads behind the call as it read before'; 0 by the template 'total and deterministic' (their statements: YtpcbfcaacilghaaTotals.lean).
  GIVEN WITH THE SEED: the statements are not yours to turn. If you find one false, say at which input.
  Laid BY PROGRAM, IN A SANDBOX (cutbox-rows.mjs): the forced cells as the released guide's own fill.sh prints them over the translation 9a55fa1ce77405f8… (all of the seat's roots in one cut). By AI agents, Wed Nov 11 2026. No macro, syntax, notation, axiom, sorry.
-/
import Derived.Test.YtpcbfcaacilghaaChecked
import GoSem.Claim
import GoSem.ClaimJoined
import GoSem.ClaimMapViews
import Derived.JoinedTies
import Derived.KernelRfl
namespace Go.Proofs.Ytpcbfcaacilghaa
/- THE CELL 'sum', in the pinned program and in every row, IS THE sha256 OF THE DUMP (.gsa) THAT YtpcbfcaacilghaaProg.lean LOADS. Nothing in Lean hashes anything: it is a label: what it is worth is what the hold of that sum in a sandbox is worth. -/
noncomputable def Try.pinned : Pinned := { name := "ytpcbfcaacilghaa", sum := "9a55fa1ce77405f86f4a1654007821c9413e3c50a6ad4ecafacd5e2e963ab718", checked := Try.checked }
namespace Rows
def none {H : Type} : Left H := { results := [], args := [] }

/-- 'laws.FnProgram': WHATEVER THE INPUT: true; the input reads as it did. -/
def fnProgramSpec : ChangeSpec := { name := "fnProgram", fn := fun _ => fun
  | [d1, d2] => { results := [.lit (.bool true)], args := [d1, d2] }
  | _ => none }
def fnProgramRow : OpenClaim := { program := "ytpcbfcaacilghaa", sum := "9a55fa1ce77405f86f4a1654007821c9413e3c50a6ad4ecafacd5e2e963ab718", func := "loop.example/cothreads/laws.FnProgram", spec := "fnProgram", unfollowed := true, recurses := true, apart := false }
def FnProgramSaid : Prop := fnProgramRow.holds Try.pinned (OpenSpec.ofChange fnProgramSpec)

/-- ITS FALSE NEIGHBOUR: 'it returns false'. Refute it at one input. -/
def fnProgramWrong : ChangeSpec := { name := "fnProgram", fn := fun _ => fun
  | [d1, d2] => { results := [.lit (.bool false)], args := [d1, d2] }
  | _ => none }
def FnProgramWrongFalsely : Prop := fnProgramRow.holds Try.pinned (OpenSpec.ofChange fnProgramWrong)

/-- 'laws.FnProgramRooms': WHATEVER THE INPUT: true; the input reads as it did. -/
def fnProgramRoomsSpec : ChangeSpec := { name := "fnProgramRooms", fn := fun _ => fun
  | [d] => { results := [.lit (.bool true)], args := [d] }
  | _ => none }
def fnProgramRoomsRow : OpenClaim := { program := "ytpcbfcaacilghaa", sum := "9a55fa1ce77405f86f4a1654007821c9413e3c50a6ad4ecafacd5e2e963ab718", func := "loop.example/cothreads/laws.FnProgramRooms", spec := "fnProgramRooms", unfollowed := true, recurses := true, apart := false }
def FnProgramRoomsSaid : Prop := fnProgramRoomsRow.holds Try.pinned (OpenSpec.ofChange fnProgramRoomsSpec)

/-- ITS FALSE NEIGHBOUR: 'it returns false'. Refute it at one input. -/
def fnProgramRoomsWrong : ChangeSpec := { name := "fnProgramRooms", fn := fun _ => fun
  | [d] => { results := [.lit (.bool false)], args := [d] }
  | _ => none }
def FnProgramRoomsWrongFalsely : Prop := fnProgramRoomsRow.holds Try.pinned (OpenSpec.ofChange fnProgramRoomsWrong)

/-- 'laws.FnProgramTasks': WHATEVER THE INPUT: true; the input reads as it did. -/
def fnProgramTasksSpec : ChangeSpec := { name := "fnProgramTasks", fn := fun _ => fun
  | [d] => { results := [.lit (.bool true)], args := [d] }
  | _ => none }
def fnProgramTasksRow : OpenClaim := { program := "ytpcbfcaacilghaa", sum := "9a55fa1ce77405f86f4a1654007821c9413e3c50a6ad4ecafacd5e2e963ab718", func := "loop.example/cothreads/laws.FnProgramTasks", spec := "fnProgramTasks", unfollowed := true, recurses := true, apart := false }
def FnProgramTasksSaid : Prop := fnProgramTasksRow.holds Try.pinned (OpenSpec.ofChange fnProgramTasksSpec)

/-- ITS FALSE NEIGHBOUR: 'it returns false'. Refute it at one input. -/
def fnProgramTasksWrong : ChangeSpec := { name := "fnProgramTasks", fn := fun _ => fun
  | [d] => { results := [.lit (.bool false)], args := [d] }
  | _ => none }
def FnProgramTasksWrongFalsely : Prop := fnProgramTasksRow.holds Try.pinned (OpenSpec.ofChange fnProgramTasksWrong)

/-- 'laws.FnProgramBoxes': WHATEVER THE INPUT: true; the input reads as it did. -/
def fnProgramBoxesSpec : ChangeSpec := { name := "fnProgramBoxes", fn := fun _ => fun
  | [d] => { results := [.lit (.bool true)], args := [d] }
  | _ => none }
def fnProgramBoxesRow : OpenClaim := { program := "ytpcbfcaacilghaa", sum := "9a55fa1ce77405f86f4a1654007821c9413e3c50a6ad4ecafacd5e2e963ab718", func := "loop.example/cothreads/laws.FnProgramBoxes", spec := "fnProgramBoxes", unfollowed := true, recurses := true, apart := false }
def FnProgramBoxesSaid : Prop := fnProgramBoxesRow.holds Try.pinned (OpenSpec.ofChange fnProgramBoxesSpec)

/-- ITS FALSE NEIGHBOUR: 'it returns false'. Refute it at one input. -/
def fnProgramBoxesWrong : ChangeSpec := { name := "fnProgramBoxes", fn := fun _ => fun
  | [d] => { results := [.lit (.bool false)], args := [d] }
  | _ => none }
def FnProgramBoxesWrongFalsely : Prop := fnProgramBoxesRow.holds Try.pinned (OpenSpec.ofChange fnProgramBoxesWrong)

/-- 'laws.FnProgramOrder': WHATEVER THE INPUT: true; the input reads as it did. -/
def fnProgramOrderSpec : ChangeSpec := { name := "fnProgramOrder", fn := fun _ => fun
  | [d] => { results := [.lit (.bool true)], args := [d] }
  | _ => none }
def fnProgramOrderRow : OpenClaim := { program := "ytpcbfcaacilghaa", sum := "9a55fa1ce77405f86f4a1654007821c9413e3c50a6ad4ecafacd5e2e963ab718", func := "loop.example/cothreads/laws.FnProgramOrder", spec := "fnProgramOrder", unfollowed := true, recurses := true, apart := false }
def FnProgramOrderSaid : Prop := fnProgramOrderRow.holds Try.pinned (OpenSpec.ofChange fnProgramOrderSpec)

/-- ITS FALSE NEIGHBOUR: 'it returns false'. Refute it at one input. -/
def fnProgramOrderWrong : ChangeSpec := { name := "fnProgramOrder", fn := fun _ => fun
  | [d] => { results := [.lit (.bool false)], args := [d] }
  | _ => none }
def FnProgramOrderWrongFalsely : Prop := fnProgramOrderRow.holds Try.pinned (OpenSpec.ofChange fnProgramOrderWrong)

/-- 'laws.FnProgramSize': WHATEVER THE INPUT: true; the input reads as it did. -/
def fnProgramSizeSpec : ChangeSpec := { name := "fnProgramSize", fn := fun _ => fun
  | [d] => { results := [.lit (.bool true)], args := [d] }
  | _ => none }
def fnProgramSizeRow : OpenClaim := { program := "ytpcbfcaacilghaa", sum := "9a55fa1ce77405f86f4a1654007821c9413e3c50a6ad4ecafacd5e2e963ab718", func := "loop.example/cothreads/laws.FnProgramSize", spec := "fnProgramSize", unfollowed := true, recurses := true, apart := false }
def FnProgramSizeSaid : Prop := fnProgramSizeRow.holds Try.pinned (OpenSpec.ofChange fnProgramSizeSpec)

/-- ITS FALSE NEIGHBOUR: 'it returns false'. Refute it at one input. -/
def fnProgramSizeWrong : ChangeSpec := { name := "fnProgramSize", fn := fun _ => fun
  | [d] => { results := [.lit (.bool false)], args := [d] }
  | _ => none }
def FnProgramSizeWrongFalsely : Prop := fnProgramSizeRow.holds Try.pinned (OpenSpec.ofChange fnProgramSizeWrong)

/-- 'laws.FnPlain': WHATEVER THE INPUT: true; the input reads as it did. -/
def fnPlainSpec : ChangeSpec := { name := "fnPlain", fn := fun _ => fun
  | [d] => { results := [.lit (.bool true)], args := [d] }
  | _ => none }
def fnPlainRow : OpenClaim := { program := "ytpcbfcaacilghaa", sum := "9a55fa1ce77405f86f4a1654007821c9413e3c50a6ad4ecafacd5e2e963ab718", func := "loop.example/cothreads/laws.FnPlain", spec := "fnPlain", unfollowed := true, recurses := true, apart := false }
def FnPlainSaid : Prop := fnPlainRow.holds Try.pinned (OpenSpec.ofChange fnPlainSpec)

/-- ITS FALSE NEIGHBOUR: 'it returns false'. Refute it at one input. -/
def fnPlainWrong : ChangeSpec := { name := "fnPlain", fn := fun _ => fun
  | [d] => { results := [.lit (.bool false)], args := [d] }
  | _ => none }
def FnPlainWrongFalsely : Prop := fnPlainRow.holds Try.pinned (OpenSpec.ofChange fnPlainWrong)

/-- 'laws.FnExactProgramValid': WHATEVER THE INPUT: true; the input reads as it did. -/
def fnExactProgramValidSpec : ChangeSpec := { name := "fnExactProgramValid", fn := fun _ => fun
  | [d] => { results := [.lit (.bool true)], args := [d] }
  | _ => none }
def fnExactProgramValidRow : OpenClaim := { program := "ytpcbfcaacilghaa", sum := "9a55fa1ce77405f86f4a1654007821c9413e3c50a6ad4ecafacd5e2e963ab718", func := "loop.example/cothreads/laws.FnExactProgramValid", spec := "fnExactProgramValid", unfollowed := true, recurses := true, loops := true, apart := false }
def FnExactProgramValidSaid : Prop := fnExactProgramValidRow.holds Try.pinned (OpenSpec.ofChange fnExactProgramValidSpec)

/-- ITS FALSE NEIGHBOUR: 'it returns false'. Refute it at one input. -/
def fnExactProgramValidWrong : ChangeSpec := { name := "fnExactProgramValid", fn := fun _ => fun
  | [d] => { results := [.lit (.bool false)], args := [d] }
  | _ => none }
def FnExactProgramValidWrongFalsely : Prop := fnExactProgramValidRow.holds Try.pinned (OpenSpec.ofChange fnExactProgramValidWrong)

/-- 'laws.FnExactProgramSize': WHATEVER THE INPUT: true; the input reads as it did. -/
def fnExactProgramSizeSpec : ChangeSpec := { name := "fnExactProgramSize", fn := fun _ => fun
  | [d] => { results := [.lit (.bool true)], args := [d] }
  | _ => none }
def fnExactProgramSizeRow : OpenClaim := { program := "ytpcbfcaacilghaa", sum := "9a55fa1ce77405f86f4a1654007821c9413e3c50a6ad4ecafacd5e2e963ab718", func := "loop.example/cothreads/laws.FnExactProgramSize", spec := "fnExactProgramSize", unfollowed := true, recurses := true, loops := true, apart := false }
def FnExactProgramSizeSaid : Prop := fnExactProgramSizeRow.holds Try.pinned (OpenSpec.ofChange fnExactProgramSizeSpec)

/-- ITS FALSE NEIGHBOUR: 'it returns false'. Refute it at one input. -/
def fnExactProgramSizeWrong : ChangeSpec := { name := "fnExactProgramSize", fn := fun _ => fun
  | [d] => { results := [.lit (.bool false)], args := [d] }
  | _ => none }
def FnExactProgramSizeWrongFalsely : Prop := fnExactProgramSizeRow.holds Try.pinned (OpenSpec.ofChange fnExactProgramSizeWrong)

/-- 'laws.FnExactProgramPlain': WHATEVER THE INPUT: true; the input reads as it did. -/
def fnExactProgramPlainSpec : ChangeSpec := { name := "fnExactProgramPlain", fn := fun _ => fun
  | [d] => { results := [.lit (.bool true)], args := [d] }
  | _ => none }
def fnExactProgramPlainRow : OpenClaim := { program := "ytpcbfcaacilghaa", sum := "9a55fa1ce77405f86f4a1654007821c9413e3c50a6ad4ecafacd5e2e963ab718", func := "loop.example/cothreads/laws.FnExactProgramPlain", spec := "fnExactProgramPlain", unfollowed := true, recurses := true, loops := true, apart := false }
def FnExactProgramPlainSaid : Prop := fnExactProgramPlainRow.holds Try.pinned (OpenSpec.ofChange fnExactProgramPlainSpec)

/-- ITS FALSE NEIGHBOUR: 'it returns false'. Refute it at one input. -/
def fnExactProgramPlainWrong : ChangeSpec := { name := "fnExactProgramPlain", fn := fun _ => fun
  | [d] => { results := [.lit (.bool false)], args := [d] }
  | _ => none }
def FnExactProgramPlainWrongFalsely : Prop := fnExactProgramPlainRow.holds Try.pinned (OpenSpec.ofChange fnExactProgramPlainWrong)

/- THE SECOND FORM. 'bulk': how many values and letters a reading holds, each counted each time it is reached (what is shared counts as often as it is met; a slice's spare places count too). A statement '..UptoSaid' is the law's where the arguments, and the package variables that the reading takes, are together of bulk at most 1048576: NARROWER than '..Said'. Prove '..Said' where nothing that the law and all that it calls make is longer than what came in: it says more and counts as full. Else prove '..UptoSaid'. A law counts once. -/
mutual
def uptoBulk {H : Type} : DataW H → Nat
  | .lit (.string bytes) => bytes.length + 1
  | .lit _ => 1
  | .nil => 1
  | .ptr d => uptoBulk d + 1
  | .slice elems spare => uptoBulkAll elems + uptoBulkAll spare + 1
  | .agg parts => uptoBulkAll parts + 1
  | .iface _ d => uptoBulk d + 1
  | .map entries => uptoBulkEntries entries + 1
  | .held _ => 1
def uptoBulkAll {H : Type} : List (DataW H) → Nat
  | [] => 0
  | d :: r => uptoBulk d + uptoBulkAll r
def uptoBulkEntries {H : Type} : List (Lit × DataW H) → Nat
  | [] => 0
  | x :: r => uptoBulkEntry x + uptoBulkEntries r
def uptoBulkEntry {H : Type} : Lit × DataW H → Nat
  | (.string bytes, d) => bytes.length + uptoBulk d + 1
  | (_, d) => uptoBulk d + 1
 end
def uptoSmall : (H : Type) → List (DataW H) → Bool := fun _ ds => decide (uptoBulkAll ds ≤ 1048576)
def OpenSpec.upto (s : _root_.Go.ChangeSpec) : _root_.Go.OpenSpec := { _root_.Go.OpenSpec.ofChange s with cond := some uptoSmall }

/-- 'laws.FnProgram', WHERE WHAT IT READS IS OF BULK AT MOST 1048576: true; the input reads as it did. -/
def fnProgramUptoRow : OpenClaim := { program := "ytpcbfcaacilghaa", sum := "9a55fa1ce77405f86f4a1654007821c9413e3c50a6ad4ecafacd5e2e963ab718", func := "loop.example/cothreads/laws.FnProgram", spec := "fnProgram", unfollowed := true, recurses := true, apart := false, narrowed := true }
def FnProgramUptoSaid : Prop := fnProgramUptoRow.holds Try.pinned (OpenSpec.upto fnProgramSpec)

/-- 'laws.FnProgramRooms', WHERE WHAT IT READS IS OF BULK AT MOST 1048576: true; the input reads as it did. -/
def fnProgramRoomsUptoRow : OpenClaim := { program := "ytpcbfcaacilghaa", sum := "9a55fa1ce77405f86f4a1654007821c9413e3c50a6ad4ecafacd5e2e963ab718", func := "loop.example/cothreads/laws.FnProgramRooms", spec := "fnProgramRooms", unfollowed := true, recurses := true, apart := false, narrowed := true }
def FnProgramRoomsUptoSaid : Prop := fnProgramRoomsUptoRow.holds Try.pinned (OpenSpec.upto fnProgramRoomsSpec)

/-- 'laws.FnProgramTasks', WHERE WHAT IT READS IS OF BULK AT MOST 1048576: true; the input reads as it did. -/
def fnProgramTasksUptoRow : OpenClaim := { program := "ytpcbfcaacilghaa", sum := "9a55fa1ce77405f86f4a1654007821c9413e3c50a6ad4ecafacd5e2e963ab718", func := "loop.example/cothreads/laws.FnProgramTasks", spec := "fnProgramTasks", unfollowed := true, recurses := true, apart := false, narrowed := true }
def FnProgramTasksUptoSaid : Prop := fnProgramTasksUptoRow.holds Try.pinned (OpenSpec.upto fnProgramTasksSpec)

/-- 'laws.FnProgramBoxes', WHERE WHAT IT READS IS OF BULK AT MOST 1048576: true; the input reads as it did. -/
def fnProgramBoxesUptoRow : OpenClaim := { program := "ytpcbfcaacilghaa", sum := "9a55fa1ce77405f86f4a1654007821c9413e3c50a6ad4ecafacd5e2e963ab718", func := "loop.example/cothreads/laws.FnProgramBoxes", spec := "fnProgramBoxes", unfollowed := true, recurses := true, apart := false, narrowed := true }
def FnProgramBoxesUptoSaid : Prop := fnProgramBoxesUptoRow.holds Try.pinned (OpenSpec.upto fnProgramBoxesSpec)

/-- 'laws.FnProgramOrder', WHERE WHAT IT READS IS OF BULK AT MOST 1048576: true; the input reads as it did. -/
def fnProgramOrderUptoRow : OpenClaim := { program := "ytpcbfcaacilghaa", sum := "9a55fa1ce77405f86f4a1654007821c9413e3c50a6ad4ecafacd5e2e963ab718", func := "loop.example/cothreads/laws.FnProgramOrder", spec := "fnProgramOrder", unfollowed := true, recurses := true, apart := false, narrowed := true }
def FnProgramOrderUptoSaid : Prop := fnProgramOrderUptoRow.holds Try.pinned (OpenSpec.upto fnProgramOrderSpec)

/-- 'laws.FnProgramSize', WHERE WHAT IT READS IS OF BULK AT MOST 1048576: true; the input reads as it did. -/
def fnProgramSizeUptoRow : OpenClaim := { program := "ytpcbfcaacilghaa", sum := "9a55fa1ce77405f86f4a1654007821c9413e3c50a6ad4ecafacd5e2e963ab718", func := "loop.example/cothreads/laws.FnProgramSize", spec := "fnProgramSize", unfollowed := true, recurses := true, apart := false, narrowed := true }
def FnProgramSizeUptoSaid : Prop := fnProgramSizeUptoRow.holds Try.pinned (OpenSpec.upto fnProgramSizeSpec)

/-- 'laws.FnPlain', WHERE WHAT IT READS IS OF BULK AT MOST 1048576: true; the input reads as it did. -/
def fnPlainUptoRow : OpenClaim := { program := "ytpcbfcaacilghaa", sum := "9a55fa1ce77405f86f4a1654007821c9413e3c50a6ad4ecafacd5e2e963ab718", func := "loop.example/cothreads/laws.FnPlain", spec := "fnPlain", unfollowed := true, recurses := true, apart := false, narrowed := true }
def FnPlainUptoSaid : Prop := fnPlainUptoRow.holds Try.pinned (OpenSpec.upto fnPlainSpec)

/-- 'laws.FnExactProgramValid', WHERE WHAT IT READS IS OF BULK AT MOST 1048576: true; the input reads as it did. -/
def fnExactProgramValidUptoRow : OpenClaim := { program := "ytpcbfcaacilghaa", sum := "9a55fa1ce77405f86f4a1654007821c9413e3c50a6ad4ecafacd5e2e963ab718", func := "loop.example/cothreads/laws.FnExactProgramValid", spec := "fnExactProgramValid", unfollowed := true, recurses := true, loops := true, apart := false, narrowed := true }
def FnExactProgramValidUptoSaid : Prop := fnExactProgramValidUptoRow.holds Try.pinned (OpenSpec.upto fnExactProgramValidSpec)

/-- 'laws.FnExactProgramSize', WHERE WHAT IT READS IS OF BULK AT MOST 1048576: true; the input reads as it did. -/
def fnExactProgramSizeUptoRow : OpenClaim := { program := "ytpcbfcaacilghaa", sum := "9a55fa1ce77405f86f4a1654007821c9413e3c50a6ad4ecafacd5e2e963ab718", func := "loop.example/cothreads/laws.FnExactProgramSize", spec := "fnExactProgramSize", unfollowed := true, recurses := true, loops := true, apart := false, narrowed := true }
def FnExactProgramSizeUptoSaid : Prop := fnExactProgramSizeUptoRow.holds Try.pinned (OpenSpec.upto fnExactProgramSizeSpec)

/-- 'laws.FnExactProgramPlain', WHERE WHAT IT READS IS OF BULK AT MOST 1048576: true; the input reads as it did. -/
def fnExactProgramPlainUptoRow : OpenClaim := { program := "ytpcbfcaacilghaa", sum := "9a55fa1ce77405f86f4a1654007821c9413e3c50a6ad4ecafacd5e2e963ab718", func := "loop.example/cothreads/laws.FnExactProgramPlain", spec := "fnExactProgramPlain", unfollowed := true, recurses := true, loops := true, apart := false, narrowed := true }
def FnExactProgramPlainUptoSaid : Prop := fnExactProgramPlainUptoRow.holds Try.pinned (OpenSpec.upto fnExactProgramPlainSpec)

end Rows
end Go.Proofs.Ytpcbfcaacilghaa

/-
  NARROWER THAN 'FOR EVERY INPUT', by the rows' own cells (each row's printed sentence says how): FnExactStmtsFold: loops · FnExactProgramFold: loops.
  DERIVED. THE GIVEN ROWS OF THIS SEAT. 9 by the template 'for every input the law returns true; each argument reads behind the call as it read before'; 0 by the template 'total and deterministic' (their statements: YtodhbeeibagiaaaTotals.lean).
  GIVEN WITH THE SEED: the statements are not yours to turn. If you find one false, say at which input.
  Laid BY PROGRAM, IN A SANDBOX (cutbox-rows.mjs): the forced cells as the released guide's own fill.sh prints them over the translation 462f040d55892d64… (all of the seat's roots in one cut). By AI agents, Wed Nov 11 2026. No macro, syntax, notation, axiom, sorry.
-/
import Derived.Test.YtodhbeeibagiaaaChecked
import GoSem.Claim
import GoSem.ClaimJoined
import GoSem.ClaimMapViews
import Derived.JoinedTies
import Derived.KernelRfl
namespace Go.Proofs.Ytodhbeeibagiaaa
/- THE CELL 'sum', in the pinned program and in every row, IS THE sha256 OF THE DUMP (.gsa) THAT YtodhbeeibagiaaaProg.lean LOADS. Nothing in Lean hashes anything: it is a label: what it is worth is what the hold of that sum in a sandbox is worth. -/
noncomputable def Try.pinned : Pinned := { name := "ytodhbeeibagiaaa", sum := "462f040d55892d64852a2c323a49c8942e7c03683161ef4f273d20c6f4d38b10", checked := Try.checked }
namespace Rows
def none {H : Type} : Left H := { results := [], args := [] }

/-- 'laws.FnStmtsFoldParts': WHATEVER THE INPUT: true; the input reads as it did. -/
def fnStmtsFoldPartsSpec : ChangeSpec := { name := "fnStmtsFoldParts", fn := fun _ => fun
  | [d1, d2] => { results := [.lit (.bool true)], args := [d1, d2] }
  | _ => none }
def fnStmtsFoldPartsRow : OpenClaim := { program := "ytodhbeeibagiaaa", sum := "462f040d55892d64852a2c323a49c8942e7c03683161ef4f273d20c6f4d38b10", func := "loop.example/cothreads/laws.FnStmtsFoldParts", spec := "fnStmtsFoldParts", unfollowed := true, recurses := true, apart := false }
def FnStmtsFoldPartsSaid : Prop := fnStmtsFoldPartsRow.holds Try.pinned (OpenSpec.ofChange fnStmtsFoldPartsSpec)

/-- ITS FALSE NEIGHBOUR: 'it returns false'. Refute it at one input. -/
def fnStmtsFoldPartsWrong : ChangeSpec := { name := "fnStmtsFoldParts", fn := fun _ => fun
  | [d1, d2] => { results := [.lit (.bool false)], args := [d1, d2] }
  | _ => none }
def FnStmtsFoldPartsWrongFalsely : Prop := fnStmtsFoldPartsRow.holds Try.pinned (OpenSpec.ofChange fnStmtsFoldPartsWrong)

/-- 'laws.FnStmtsFoldTwice': WHATEVER THE INPUT: true; the input reads as it did. -/
def fnStmtsFoldTwiceSpec : ChangeSpec := { name := "fnStmtsFoldTwice", fn := fun _ => fun
  | [d] => { results := [.lit (.bool true)], args := [d] }
  | _ => none }
def fnStmtsFoldTwiceRow : OpenClaim := { program := "ytodhbeeibagiaaa", sum := "462f040d55892d64852a2c323a49c8942e7c03683161ef4f273d20c6f4d38b10", func := "loop.example/cothreads/laws.FnStmtsFoldTwice", spec := "fnStmtsFoldTwice", unfollowed := true, recurses := true, apart := false }
def FnStmtsFoldTwiceSaid : Prop := fnStmtsFoldTwiceRow.holds Try.pinned (OpenSpec.ofChange fnStmtsFoldTwiceSpec)

/-- ITS FALSE NEIGHBOUR: 'it returns false'. Refute it at one input. -/
def fnStmtsFoldTwiceWrong : ChangeSpec := { name := "fnStmtsFoldTwice", fn := fun _ => fun
  | [d] => { results := [.lit (.bool false)], args := [d] }
  | _ => none }
def FnStmtsFoldTwiceWrongFalsely : Prop := fnStmtsFoldTwiceRow.holds Try.pinned (OpenSpec.ofChange fnStmtsFoldTwiceWrong)

/-- 'laws.FnStmtsFoldOne': WHATEVER THE INPUT: true; the input reads as it did. -/
def fnStmtsFoldOneSpec : ChangeSpec := { name := "fnStmtsFoldOne", fn := fun _ => fun
  | [d] => { results := [.lit (.bool true)], args := [d] }
  | _ => none }
def fnStmtsFoldOneRow : OpenClaim := { program := "ytodhbeeibagiaaa", sum := "462f040d55892d64852a2c323a49c8942e7c03683161ef4f273d20c6f4d38b10", func := "loop.example/cothreads/laws.FnStmtsFoldOne", spec := "fnStmtsFoldOne", unfollowed := true, recurses := true, apart := false }
def FnStmtsFoldOneSaid : Prop := fnStmtsFoldOneRow.holds Try.pinned (OpenSpec.ofChange fnStmtsFoldOneSpec)

/-- ITS FALSE NEIGHBOUR: 'it returns false'. Refute it at one input. -/
def fnStmtsFoldOneWrong : ChangeSpec := { name := "fnStmtsFoldOne", fn := fun _ => fun
  | [d] => { results := [.lit (.bool false)], args := [d] }
  | _ => none }
def FnStmtsFoldOneWrongFalsely : Prop := fnStmtsFoldOneRow.holds Try.pinned (OpenSpec.ofChange fnStmtsFoldOneWrong)

/-- 'laws.FnStmtsFold': WHATEVER THE INPUT: true; the input reads as it did. -/
def fnStmtsFoldSpec : ChangeSpec := { name := "fnStmtsFold", fn := fun _ => fun
  | [d] => { results := [.lit (.bool true)], args := [d] }
  | _ => none }
def fnStmtsFoldRow : OpenClaim := { program := "ytodhbeeibagiaaa", sum := "462f040d55892d64852a2c323a49c8942e7c03683161ef4f273d20c6f4d38b10", func := "loop.example/cothreads/laws.FnStmtsFold", spec := "fnStmtsFold", unfollowed := true, recurses := true, apart := false }
def FnStmtsFoldSaid : Prop := fnStmtsFoldRow.holds Try.pinned (OpenSpec.ofChange fnStmtsFoldSpec)

/-- ITS FALSE NEIGHBOUR: 'it returns false'. Refute it at one input. -/
def fnStmtsFoldWrong : ChangeSpec := { name := "fnStmtsFold", fn := fun _ => fun
  | [d] => { results := [.lit (.bool false)], args := [d] }
  | _ => none }
def FnStmtsFoldWrongFalsely : Prop := fnStmtsFoldRow.holds Try.pinned (OpenSpec.ofChange fnStmtsFoldWrong)

/-- 'laws.FnStmtsFoldIf': WHATEVER THE INPUT: true; the input reads as it did. -/
def fnStmtsFoldIfSpec : ChangeSpec := { name := "fnStmtsFoldIf", fn := fun _ => fun
  | [d] => { results := [.lit (.bool true)], args := [d] }
  | _ => none }
def fnStmtsFoldIfRow : OpenClaim := { program := "ytodhbeeibagiaaa", sum := "462f040d55892d64852a2c323a49c8942e7c03683161ef4f273d20c6f4d38b10", func := "loop.example/cothreads/laws.FnStmtsFoldIf", spec := "fnStmtsFoldIf", unfollowed := true, recurses := true, apart := false }
def FnStmtsFoldIfSaid : Prop := fnStmtsFoldIfRow.holds Try.pinned (OpenSpec.ofChange fnStmtsFoldIfSpec)

/-- ITS FALSE NEIGHBOUR: 'it returns false'. Refute it at one input. -/
def fnStmtsFoldIfWrong : ChangeSpec := { name := "fnStmtsFoldIf", fn := fun _ => fun
  | [d] => { results := [.lit (.bool false)], args := [d] }
  | _ => none }
def FnStmtsFoldIfWrongFalsely : Prop := fnStmtsFoldIfRow.holds Try.pinned (OpenSpec.ofChange fnStmtsFoldIfWrong)

/-- 'laws.FnExactStmtsFold': WHATEVER THE INPUT: true; the input reads as it did. -/
def fnExactStmtsFoldSpec : ChangeSpec := { name := "fnExactStmtsFold", fn := fun _ => fun
  | [d] => { results := [.lit (.bool true)], args := [d] }
  | _ => none }
def fnExactStmtsFoldRow : OpenClaim := { program := "ytodhbeeibagiaaa", sum := "462f040d55892d64852a2c323a49c8942e7c03683161ef4f273d20c6f4d38b10", func := "loop.example/cothreads/laws.FnExactStmtsFold", spec := "fnExactStmtsFold", unfollowed := true, recurses := true, loops := true, apart := false }
def FnExactStmtsFoldSaid : Prop := fnExactStmtsFoldRow.holds Try.pinned (OpenSpec.ofChange fnExactStmtsFoldSpec)

/-- ITS FALSE NEIGHBOUR: 'it returns false'. Refute it at one input. -/
def fnExactStmtsFoldWrong : ChangeSpec := { name := "fnExactStmtsFold", fn := fun _ => fun
  | [d] => { results := [.lit (.bool false)], args := [d] }
  | _ => none }
def FnExactStmtsFoldWrongFalsely : Prop := fnExactStmtsFoldRow.holds Try.pinned (OpenSpec.ofChange fnExactStmtsFoldWrong)

/-- 'laws.FnProgramFoldTwice': WHATEVER THE INPUT: true; the input reads as it did. -/
def fnProgramFoldTwiceSpec : ChangeSpec := { name := "fnProgramFoldTwice", fn := fun _ => fun
  | [d] => { results := [.lit (.bool true)], args := [d] }
  | _ => none }
def fnProgramFoldTwiceRow : OpenClaim := { program := "ytodhbeeibagiaaa", sum := "462f040d55892d64852a2c323a49c8942e7c03683161ef4f273d20c6f4d38b10", func := "loop.example/cothreads/laws.FnProgramFoldTwice", spec := "fnProgramFoldTwice", unfollowed := true, recurses := true, apart := false }
def FnProgramFoldTwiceSaid : Prop := fnProgramFoldTwiceRow.holds Try.pinned (OpenSpec.ofChange fnProgramFoldTwiceSpec)

/-- ITS FALSE NEIGHBOUR: 'it returns false'. Refute it at one input. -/
def fnProgramFoldTwiceWrong : ChangeSpec := { name := "fnProgramFoldTwice", fn := fun _ => fun
  | [d] => { results := [.lit (.bool false)], args := [d] }
  | _ => none }
def FnProgramFoldTwiceWrongFalsely : Prop := fnProgramFoldTwiceRow.holds Try.pinned (OpenSpec.ofChange fnProgramFoldTwiceWrong)

/-- 'laws.FnProgramFold': WHATEVER THE INPUT: true; the input reads as it did. -/
def fnProgramFoldSpec : ChangeSpec := { name := "fnProgramFold", fn := fun _ => fun
  | [d] => { results := [.lit (.bool true)], args := [d] }
  | _ => none }
def fnProgramFoldRow : OpenClaim := { program := "ytodhbeeibagiaaa", sum := "462f040d55892d64852a2c323a49c8942e7c03683161ef4f273d20c6f4d38b10", func := "loop.example/cothreads/laws.FnProgramFold", spec := "fnProgramFold", unfollowed := true, recurses := true, apart := false }
def FnProgramFoldSaid : Prop := fnProgramFoldRow.holds Try.pinned (OpenSpec.ofChange fnProgramFoldSpec)

/-- ITS FALSE NEIGHBOUR: 'it returns false'. Refute it at one input. -/
def fnProgramFoldWrong : ChangeSpec := { name := "fnProgramFold", fn := fun _ => fun
  | [d] => { results := [.lit (.bool false)], args := [d] }
  | _ => none }
def FnProgramFoldWrongFalsely : Prop := fnProgramFoldRow.holds Try.pinned (OpenSpec.ofChange fnProgramFoldWrong)

/-- 'laws.FnExactProgramFold': WHATEVER THE INPUT: true; the input reads as it did. -/
def fnExactProgramFoldSpec : ChangeSpec := { name := "fnExactProgramFold", fn := fun _ => fun
  | [d] => { results := [.lit (.bool true)], args := [d] }
  | _ => none }
def fnExactProgramFoldRow : OpenClaim := { program := "ytodhbeeibagiaaa", sum := "462f040d55892d64852a2c323a49c8942e7c03683161ef4f273d20c6f4d38b10", func := "loop.example/cothreads/laws.FnExactProgramFold", spec := "fnExactProgramFold", unfollowed := true, recurses := true, loops := true, apart := false }
def FnExactProgramFoldSaid : Prop := fnExactProgramFoldRow.holds Try.pinned (OpenSpec.ofChange fnExactProgramFoldSpec)

/-- ITS FALSE NEIGHBOUR: 'it returns false'. Refute it at one input. -/
def fnExactProgramFoldWrong : ChangeSpec := { name := "fnExactProgramFold", fn := fun _ => fun
  | [d] => { results := [.lit (.bool false)], args := [d] }
  | _ => none }
def FnExactProgramFoldWrongFalsely : Prop := fnExactProgramFoldRow.holds Try.pinned (OpenSpec.ofChange fnExactProgramFoldWrong)

/- THE SECOND FORM. 'bulk': how many values and letters a reading holds, each counted each time it is reached (what is shared counts as often as it is met; a slice's spare places count too). A statement '..UptoSaid' is the law's where the arguments, and the package variables that the reading takes, are together of bulk at most 1048576: NARROWER than '..Said'. Prove '..Said' where nothing that the law and all that it calls make is longer than what came in: it says more and counts as full. Else prove '..UptoSaid'. A law counts once. -/
mutual
def uptoBulk {H : Type} : DataW H → Nat
  | .lit (.string bytes) => bytes.length + 1
  | .lit _ => 1
  | .nil => 1
  | .ptr d => uptoBulk d + 1
  | .slice elems spare => uptoBulkAll elems + uptoBulkAll spare + 1
  | .agg parts => uptoBulkAll parts + 1
  | .iface _ d => uptoBulk d + 1
  | .map entries => uptoBulkEntries entries + 1
  | .held _ => 1
def uptoBulkAll {H : Type} : List (DataW H) → Nat
  | [] => 0
  | d :: r => uptoBulk d + uptoBulkAll r
def uptoBulkEntries {H : Type} : List (Lit × DataW H) → Nat
  | [] => 0
  | x :: r => uptoBulkEntry x + uptoBulkEntries r
def uptoBulkEntry {H : Type} : Lit × DataW H → Nat
  | (.string bytes, d) => bytes.length + uptoBulk d + 1
  | (_, d) => uptoBulk d + 1
 end
def uptoSmall : (H : Type) → List (DataW H) → Bool := fun _ ds => decide (uptoBulkAll ds ≤ 1048576)
def OpenSpec.upto (s : _root_.Go.ChangeSpec) : _root_.Go.OpenSpec := { _root_.Go.OpenSpec.ofChange s with cond := some uptoSmall }

/-- 'laws.FnStmtsFoldParts', WHERE WHAT IT READS IS OF BULK AT MOST 1048576: true; the input reads as it did. -/
def fnStmtsFoldPartsUptoRow : OpenClaim := { program := "ytodhbeeibagiaaa", sum := "462f040d55892d64852a2c323a49c8942e7c03683161ef4f273d20c6f4d38b10", func := "loop.example/cothreads/laws.FnStmtsFoldParts", spec := "fnStmtsFoldParts", unfollowed := true, recurses := true, apart := false, narrowed := true }
def FnStmtsFoldPartsUptoSaid : Prop := fnStmtsFoldPartsUptoRow.holds Try.pinned (OpenSpec.upto fnStmtsFoldPartsSpec)

/-- 'laws.FnStmtsFoldTwice', WHERE WHAT IT READS IS OF BULK AT MOST 1048576: true; the input reads as it did. -/
def fnStmtsFoldTwiceUptoRow : OpenClaim := { program := "ytodhbeeibagiaaa", sum := "462f040d55892d64852a2c323a49c8942e7c03683161ef4f273d20c6f4d38b10", func := "loop.example/cothreads/laws.FnStmtsFoldTwice", spec := "fnStmtsFoldTwice", unfollowed := true, recurses := true, apart := false, narrowed := true }
def FnStmtsFoldTwiceUptoSaid : Prop := fnStmtsFoldTwiceUptoRow.holds Try.pinned (OpenSpec.upto fnStmtsFoldTwiceSpec)

/-- 'laws.FnStmtsFoldOne', WHERE WHAT IT READS IS OF BULK AT MOST 1048576: true; the input reads as it did. -/
def fnStmtsFoldOneUptoRow : OpenClaim := { program := "ytodhbeeibagiaaa", sum := "462f040d55892d64852a2c323a49c8942e7c03683161ef4f273d20c6f4d38b10", func := "loop.example/cothreads/laws.FnStmtsFoldOne", spec := "fnStmtsFoldOne", unfollowed := true, recurses := true, apart := false, narrowed := true }
def FnStmtsFoldOneUptoSaid : Prop := fnStmtsFoldOneUptoRow.holds Try.pinned (OpenSpec.upto fnStmtsFoldOneSpec)

/-- 'laws.FnStmtsFold', WHERE WHAT IT READS IS OF BULK AT MOST 1048576: true; the input reads as it did. -/
def fnStmtsFoldUptoRow : OpenClaim := { program := "ytodhbeeibagiaaa", sum := "462f040d55892d64852a2c323a49c8942e7c03683161ef4f273d20c6f4d38b10", func := "loop.example/cothreads/laws.FnStmtsFold", spec := "fnStmtsFold", unfollowed := true, recurses := true, apart := false, narrowed := true }
def FnStmtsFoldUptoSaid : Prop := fnStmtsFoldUptoRow.holds Try.pinned (OpenSpec.upto fnStmtsFoldSpec)

/-- 'laws.FnStmtsFoldIf', WHERE WHAT IT READS IS OF BULK AT MOST 1048576: true; the input reads as it did. -/
def fnStmtsFoldIfUptoRow : OpenClaim := { program := "ytodhbeeibagiaaa", sum := "462f040d55892d64852a2c323a49c8942e7c03683161ef4f273d20c6f4d38b10", func := "loop.example/cothreads/laws.FnStmtsFoldIf", spec := "fnStmtsFoldIf", unfollowed := true, recurses := true, apart := false, narrowed := true }
def FnStmtsFoldIfUptoSaid : Prop := fnStmtsFoldIfUptoRow.holds Try.pinned (OpenSpec.upto fnStmtsFoldIfSpec)

/-- 'laws.FnExactStmtsFold', WHERE WHAT IT READS IS OF BULK AT MOST 1048576: true; the input reads as it did. -/
def fnExactStmtsFoldUptoRow : OpenClaim := { program := "ytodhbeeibagiaaa", sum := "462f040d55892d64852a2c323a49c8942e7c03683161ef4f273d20c6f4d38b10", func := "loop.example/cothreads/laws.FnExactStmtsFold", spec := "fnExactStmtsFold", unfollowed := true, recurses := true, loops := true, apart := false, narrowed := true }
def FnExactStmtsFoldUptoSaid : Prop := fnExactStmtsFoldUptoRow.holds Try.pinned (OpenSpec.upto fnExactStmtsFoldSpec)

/-- 'laws.FnProgramFoldTwice', WHERE WHAT IT READS IS OF BULK AT MOST 1048576: true; the input reads as it did. -/
def fnProgramFoldTwiceUptoRow : OpenClaim := { program := "ytodhbeeibagiaaa", sum := "462f040d55892d64852a2c323a49c8942e7c03683161ef4f273d20c6f4d38b10", func := "loop.example/cothreads/laws.FnProgramFoldTwice", spec := "fnProgramFoldTwice", unfollowed := true, recurses := true, apart := false, narrowed := true }
def FnProgramFoldTwiceUptoSaid : Prop := fnProgramFoldTwiceUptoRow.holds Try.pinned (OpenSpec.upto fnProgramFoldTwiceSpec)

/-- 'laws.FnProgramFold', WHERE WHAT IT READS IS OF BULK AT MOST 1048576: true; the input reads as it did. -/
def fnProgramFoldUptoRow : OpenClaim := { program := "ytodhbeeibagiaaa", sum := "462f040d55892d64852a2c323a49c8942e7c03683161ef4f273d20c6f4d38b10", func := "loop.example/cothreads/laws.FnProgramFold", spec := "fnProgramFold", unfollowed := true, recurses := true, apart := false, narrowed := true }
def FnProgramFoldUptoSaid : Prop := fnProgramFoldUptoRow.holds Try.pinned (OpenSpec.upto fnProgramFoldSpec)

/-- 'laws.FnExactProgramFold', WHERE WHAT IT READS IS OF BULK AT MOST 1048576: true; the input reads as it did. -/
def fnExactProgramFoldUptoRow : OpenClaim := { program := "ytodhbeeibagiaaa", sum := "462f040d55892d64852a2c323a49c8942e7c03683161ef4f273d20c6f4d38b10", func := "loop.example/cothreads/laws.FnExactProgramFold", spec := "fnExactProgramFold", unfollowed := true, recurses := true, loops := true, apart := false, narrowed := true }
def FnExactProgramFoldUptoSaid : Prop := fnExactProgramFoldUptoRow.holds Try.pinned (OpenSpec.upto fnExactProgramFoldSpec)

end Rows
end Go.Proofs.Ytodhbeeibagiaaa

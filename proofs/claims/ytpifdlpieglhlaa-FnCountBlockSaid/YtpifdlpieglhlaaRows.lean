/-
  NARROWER THAN 'FOR EVERY INPUT', by the rows' own cells (each row's printed sentence says how): FnExactStmtsValid: loops · FnExactStmtsCount: loops.
  DERIVED. THE GIVEN ROWS OF THIS SEAT. 8 by the template 'for every input the law returns true; each argument reads behind the call as it read before'; 0 by the template 'total and deterministic' (their statements: YtpifdlpieglhlaaTotals.lean).
  GIVEN WITH THE SEED: the statements are not yours to turn. If you find one false, say at which input.
  Laid BY PROGRAM, IN A SANDBOX (cutbox-rows.mjs): the forced cells as the released guide's own fill.sh prints them over the translation d03cdbf2b50048c0… (all of the seat's roots in one cut). By AI agents, Wed Nov 11 2026. No macro, syntax, notation, axiom, sorry.
-/
import Derived.Test.YtpifdlpieglhlaaChecked
import GoSem.Claim
import GoSem.ClaimJoined
import GoSem.ClaimMapViews
import Derived.JoinedTies
import Derived.KernelRfl
namespace Go.Proofs.Ytpifdlpieglhlaa
/- THE CELL 'sum', in the pinned program and in every row, IS THE sha256 OF THE DUMP (.gsa) THAT YtpifdlpieglhlaaProg.lean LOADS. Nothing in Lean hashes anything: it is a label: what it is worth is what the hold of that sum in a sandbox is worth. -/
noncomputable def Try.pinned : Pinned := { name := "ytpifdlpieglhlaa", sum := "d03cdbf2b50048c0823f81349ebd1e2677516a6cd007eaaff30b6070d62cf557", checked := Try.checked }
namespace Rows
def none {H : Type} : Left H := { results := [], args := [] }

/-- 'laws.FnExactStmtsValid': WHATEVER THE INPUT: true; the input reads as it did. -/
def fnExactStmtsValidSpec : ChangeSpec := { name := "fnExactStmtsValid", fn := fun _ => fun
  | [d] => { results := [.lit (.bool true)], args := [d] }
  | _ => none }
def fnExactStmtsValidRow : OpenClaim := { program := "ytpifdlpieglhlaa", sum := "d03cdbf2b50048c0823f81349ebd1e2677516a6cd007eaaff30b6070d62cf557", func := "loop.example/cothreads/laws.FnExactStmtsValid", spec := "fnExactStmtsValid", unfollowed := true, recurses := true, loops := true, apart := false }
def FnExactStmtsValidSaid : Prop := fnExactStmtsValidRow.holds Try.pinned (OpenSpec.ofChange fnExactStmtsValidSpec)

/-- ITS FALSE NEIGHBOUR: 'it returns false'. Refute it at one input. -/
def fnExactStmtsValidWrong : ChangeSpec := { name := "fnExactStmtsValid", fn := fun _ => fun
  | [d] => { results := [.lit (.bool false)], args := [d] }
  | _ => none }
def FnExactStmtsValidWrongFalsely : Prop := fnExactStmtsValidRow.holds Try.pinned (OpenSpec.ofChange fnExactStmtsValidWrong)

/-- 'laws.FnStmts': WHATEVER THE INPUT: true; the input reads as it did. -/
def fnStmtsSpec : ChangeSpec := { name := "fnStmts", fn := fun _ => fun
  | [d1, d2] => { results := [.lit (.bool true)], args := [d1, d2] }
  | _ => none }
def fnStmtsRow : OpenClaim := { program := "ytpifdlpieglhlaa", sum := "d03cdbf2b50048c0823f81349ebd1e2677516a6cd007eaaff30b6070d62cf557", func := "loop.example/cothreads/laws.FnStmts", spec := "fnStmts", unfollowed := true, recurses := true, apart := false }
def FnStmtsSaid : Prop := fnStmtsRow.holds Try.pinned (OpenSpec.ofChange fnStmtsSpec)

/-- ITS FALSE NEIGHBOUR: 'it returns false'. Refute it at one input. -/
def fnStmtsWrong : ChangeSpec := { name := "fnStmts", fn := fun _ => fun
  | [d1, d2] => { results := [.lit (.bool false)], args := [d1, d2] }
  | _ => none }
def FnStmtsWrongFalsely : Prop := fnStmtsRow.holds Try.pinned (OpenSpec.ofChange fnStmtsWrong)

/-- 'laws.FnStmtsBlocks': WHATEVER THE INPUT: true; the input reads as it did. -/
def fnStmtsBlocksSpec : ChangeSpec := { name := "fnStmtsBlocks", fn := fun _ => fun
  | [d] => { results := [.lit (.bool true)], args := [d] }
  | _ => none }
def fnStmtsBlocksRow : OpenClaim := { program := "ytpifdlpieglhlaa", sum := "d03cdbf2b50048c0823f81349ebd1e2677516a6cd007eaaff30b6070d62cf557", func := "loop.example/cothreads/laws.FnStmtsBlocks", spec := "fnStmtsBlocks", unfollowed := true, recurses := true, apart := false }
def FnStmtsBlocksSaid : Prop := fnStmtsBlocksRow.holds Try.pinned (OpenSpec.ofChange fnStmtsBlocksSpec)

/-- ITS FALSE NEIGHBOUR: 'it returns false'. Refute it at one input. -/
def fnStmtsBlocksWrong : ChangeSpec := { name := "fnStmtsBlocks", fn := fun _ => fun
  | [d] => { results := [.lit (.bool false)], args := [d] }
  | _ => none }
def FnStmtsBlocksWrongFalsely : Prop := fnStmtsBlocksRow.holds Try.pinned (OpenSpec.ofChange fnStmtsBlocksWrong)

/-- 'laws.FnStmtsMany': WHATEVER THE INPUT: true; the input reads as it did. -/
def fnStmtsManySpec : ChangeSpec := { name := "fnStmtsMany", fn := fun _ => fun
  | [d] => { results := [.lit (.bool true)], args := [d] }
  | _ => none }
def fnStmtsManyRow : OpenClaim := { program := "ytpifdlpieglhlaa", sum := "d03cdbf2b50048c0823f81349ebd1e2677516a6cd007eaaff30b6070d62cf557", func := "loop.example/cothreads/laws.FnStmtsMany", spec := "fnStmtsMany", unfollowed := true, recurses := true, apart := false }
def FnStmtsManySaid : Prop := fnStmtsManyRow.holds Try.pinned (OpenSpec.ofChange fnStmtsManySpec)

/-- ITS FALSE NEIGHBOUR: 'it returns false'. Refute it at one input. -/
def fnStmtsManyWrong : ChangeSpec := { name := "fnStmtsMany", fn := fun _ => fun
  | [d] => { results := [.lit (.bool false)], args := [d] }
  | _ => none }
def FnStmtsManyWrongFalsely : Prop := fnStmtsManyRow.holds Try.pinned (OpenSpec.ofChange fnStmtsManyWrong)

/-- 'laws.FnCountJoin': WHATEVER THE INPUT: true; the input reads as it did. -/
def fnCountJoinSpec : ChangeSpec := { name := "fnCountJoin", fn := fun _ => fun
  | [d1, d2] => { results := [.lit (.bool true)], args := [d1, d2] }
  | _ => none }
def fnCountJoinRow : OpenClaim := { program := "ytpifdlpieglhlaa", sum := "d03cdbf2b50048c0823f81349ebd1e2677516a6cd007eaaff30b6070d62cf557", func := "loop.example/cothreads/laws.FnCountJoin", spec := "fnCountJoin", unfollowed := true, recurses := true, apart := false }
def FnCountJoinSaid : Prop := fnCountJoinRow.holds Try.pinned (OpenSpec.ofChange fnCountJoinSpec)

/-- ITS FALSE NEIGHBOUR: 'it returns false'. Refute it at one input. -/
def fnCountJoinWrong : ChangeSpec := { name := "fnCountJoin", fn := fun _ => fun
  | [d1, d2] => { results := [.lit (.bool false)], args := [d1, d2] }
  | _ => none }
def FnCountJoinWrongFalsely : Prop := fnCountJoinRow.holds Try.pinned (OpenSpec.ofChange fnCountJoinWrong)

/-- 'laws.FnCountParts': WHATEVER THE INPUT: true; the input reads as it did. -/
def fnCountPartsSpec : ChangeSpec := { name := "fnCountParts", fn := fun _ => fun
  | [d1, d2] => { results := [.lit (.bool true)], args := [d1, d2] }
  | _ => none }
def fnCountPartsRow : OpenClaim := { program := "ytpifdlpieglhlaa", sum := "d03cdbf2b50048c0823f81349ebd1e2677516a6cd007eaaff30b6070d62cf557", func := "loop.example/cothreads/laws.FnCountParts", spec := "fnCountParts", unfollowed := true, recurses := true, apart := false }
def FnCountPartsSaid : Prop := fnCountPartsRow.holds Try.pinned (OpenSpec.ofChange fnCountPartsSpec)

/-- ITS FALSE NEIGHBOUR: 'it returns false'. Refute it at one input. -/
def fnCountPartsWrong : ChangeSpec := { name := "fnCountParts", fn := fun _ => fun
  | [d1, d2] => { results := [.lit (.bool false)], args := [d1, d2] }
  | _ => none }
def FnCountPartsWrongFalsely : Prop := fnCountPartsRow.holds Try.pinned (OpenSpec.ofChange fnCountPartsWrong)

/-- 'laws.FnCountBlock': WHATEVER THE INPUT: true; the input reads as it did. -/
def fnCountBlockSpec : ChangeSpec := { name := "fnCountBlock", fn := fun _ => fun
  | [d] => { results := [.lit (.bool true)], args := [d] }
  | _ => none }
def fnCountBlockRow : OpenClaim := { program := "ytpifdlpieglhlaa", sum := "d03cdbf2b50048c0823f81349ebd1e2677516a6cd007eaaff30b6070d62cf557", func := "loop.example/cothreads/laws.FnCountBlock", spec := "fnCountBlock", unfollowed := true, recurses := true, apart := false }
def FnCountBlockSaid : Prop := fnCountBlockRow.holds Try.pinned (OpenSpec.ofChange fnCountBlockSpec)

/-- ITS FALSE NEIGHBOUR: 'it returns false'. Refute it at one input. -/
def fnCountBlockWrong : ChangeSpec := { name := "fnCountBlock", fn := fun _ => fun
  | [d] => { results := [.lit (.bool false)], args := [d] }
  | _ => none }
def FnCountBlockWrongFalsely : Prop := fnCountBlockRow.holds Try.pinned (OpenSpec.ofChange fnCountBlockWrong)

/-- 'laws.FnExactStmtsCount': WHATEVER THE INPUT: true; the input reads as it did. -/
def fnExactStmtsCountSpec : ChangeSpec := { name := "fnExactStmtsCount", fn := fun _ => fun
  | [d] => { results := [.lit (.bool true)], args := [d] }
  | _ => none }
def fnExactStmtsCountRow : OpenClaim := { program := "ytpifdlpieglhlaa", sum := "d03cdbf2b50048c0823f81349ebd1e2677516a6cd007eaaff30b6070d62cf557", func := "loop.example/cothreads/laws.FnExactStmtsCount", spec := "fnExactStmtsCount", unfollowed := true, recurses := true, loops := true, apart := false }
def FnExactStmtsCountSaid : Prop := fnExactStmtsCountRow.holds Try.pinned (OpenSpec.ofChange fnExactStmtsCountSpec)

/-- ITS FALSE NEIGHBOUR: 'it returns false'. Refute it at one input. -/
def fnExactStmtsCountWrong : ChangeSpec := { name := "fnExactStmtsCount", fn := fun _ => fun
  | [d] => { results := [.lit (.bool false)], args := [d] }
  | _ => none }
def FnExactStmtsCountWrongFalsely : Prop := fnExactStmtsCountRow.holds Try.pinned (OpenSpec.ofChange fnExactStmtsCountWrong)

/- THE SECOND FORM. 'bulk': how many values and letters a reading holds, each counted each time it is reached (what is shared counts as often as it is met; a slice's spare places count too). A statement '..UptoSaid' is the law's where the arguments, and the package variables that the reading takes, are together of bulk at most 1048576: NARROWER than '..Said'. Prove '..Said' where nothing that the law and all that it calls make is longer than what came in: it says more and counts as full. Else prove '..UptoSaid'. A law counts once. -/
mutual
def uptoBulk {H : Type} : DataW H → Nat
  | .lit (.string bytes) => bytes.length + 1
  | .lit _ => 1
  | .nil => 1
  | .ptr d => uptoBulk d + 1
  | .slice elems spare => uptoBulkAll elems + uptoBulkAll spare + 1
  | .agg parts => uptoBulkAll parts + 1
  | .iface _ d => uptoBulk d + 1
  | .map entries => uptoBulkEntries entries + 1
  | .held _ => 1
def uptoBulkAll {H : Type} : List (DataW H) → Nat
  | [] => 0
  | d :: r => uptoBulk d + uptoBulkAll r
def uptoBulkEntries {H : Type} : List (Lit × DataW H) → Nat
  | [] => 0
  | x :: r => uptoBulkEntry x + uptoBulkEntries r
def uptoBulkEntry {H : Type} : Lit × DataW H → Nat
  | (.string bytes, d) => bytes.length + uptoBulk d + 1
  | (_, d) => uptoBulk d + 1
 end
def uptoSmall : (H : Type) → List (DataW H) → Bool := fun _ ds => decide (uptoBulkAll ds ≤ 1048576)
def OpenSpec.upto (s : _root_.Go.ChangeSpec) : _root_.Go.OpenSpec := { _root_.Go.OpenSpec.ofChange s with cond := some uptoSmall }

/-- 'laws.FnExactStmtsValid', WHERE WHAT IT READS IS OF BULK AT MOST 1048576: true; the input reads as it did. -/
def fnExactStmtsValidUptoRow : OpenClaim := { program := "ytpifdlpieglhlaa", sum := "d03cdbf2b50048c0823f81349ebd1e2677516a6cd007eaaff30b6070d62cf557", func := "loop.example/cothreads/laws.FnExactStmtsValid", spec := "fnExactStmtsValid", unfollowed := true, recurses := true, loops := true, apart := false, narrowed := true }
def FnExactStmtsValidUptoSaid : Prop := fnExactStmtsValidUptoRow.holds Try.pinned (OpenSpec.upto fnExactStmtsValidSpec)

/-- 'laws.FnStmts', WHERE WHAT IT READS IS OF BULK AT MOST 1048576: true; the input reads as it did. -/
def fnStmtsUptoRow : OpenClaim := { program := "ytpifdlpieglhlaa", sum := "d03cdbf2b50048c0823f81349ebd1e2677516a6cd007eaaff30b6070d62cf557", func := "loop.example/cothreads/laws.FnStmts", spec := "fnStmts", unfollowed := true, recurses := true, apart := false, narrowed := true }
def FnStmtsUptoSaid : Prop := fnStmtsUptoRow.holds Try.pinned (OpenSpec.upto fnStmtsSpec)

/-- 'laws.FnStmtsBlocks', WHERE WHAT IT READS IS OF BULK AT MOST 1048576: true; the input reads as it did. -/
def fnStmtsBlocksUptoRow : OpenClaim := { program := "ytpifdlpieglhlaa", sum := "d03cdbf2b50048c0823f81349ebd1e2677516a6cd007eaaff30b6070d62cf557", func := "loop.example/cothreads/laws.FnStmtsBlocks", spec := "fnStmtsBlocks", unfollowed := true, recurses := true, apart := false, narrowed := true }
def FnStmtsBlocksUptoSaid : Prop := fnStmtsBlocksUptoRow.holds Try.pinned (OpenSpec.upto fnStmtsBlocksSpec)

/-- 'laws.FnStmtsMany', WHERE WHAT IT READS IS OF BULK AT MOST 1048576: true; the input reads as it did. -/
def fnStmtsManyUptoRow : OpenClaim := { program := "ytpifdlpieglhlaa", sum := "d03cdbf2b50048c0823f81349ebd1e2677516a6cd007eaaff30b6070d62cf557", func := "loop.example/cothreads/laws.FnStmtsMany", spec := "fnStmtsMany", unfollowed := true, recurses := true, apart := false, narrowed := true }
def FnStmtsManyUptoSaid : Prop := fnStmtsManyUptoRow.holds Try.pinned (OpenSpec.upto fnStmtsManySpec)

/-- 'laws.FnCountJoin', WHERE WHAT IT READS IS OF BULK AT MOST 1048576: true; the input reads as it did. -/
def fnCountJoinUptoRow : OpenClaim := { program := "ytpifdlpieglhlaa", sum := "d03cdbf2b50048c0823f81349ebd1e2677516a6cd007eaaff30b6070d62cf557", func := "loop.example/cothreads/laws.FnCountJoin", spec := "fnCountJoin", unfollowed := true, recurses := true, apart := false, narrowed := true }
def FnCountJoinUptoSaid : Prop := fnCountJoinUptoRow.holds Try.pinned (OpenSpec.upto fnCountJoinSpec)

/-- 'laws.FnCountParts', WHERE WHAT IT READS IS OF BULK AT MOST 1048576: true; the input reads as it did. -/
def fnCountPartsUptoRow : OpenClaim := { program := "ytpifdlpieglhlaa", sum := "d03cdbf2b50048c0823f81349ebd1e2677516a6cd007eaaff30b6070d62cf557", func := "loop.example/cothreads/laws.FnCountParts", spec := "fnCountParts", unfollowed := true, recurses := true, apart := false, narrowed := true }
def FnCountPartsUptoSaid : Prop := fnCountPartsUptoRow.holds Try.pinned (OpenSpec.upto fnCountPartsSpec)

/-- 'laws.FnCountBlock', WHERE WHAT IT READS IS OF BULK AT MOST 1048576: true; the input reads as it did. -/
def fnCountBlockUptoRow : OpenClaim := { program := "ytpifdlpieglhlaa", sum := "d03cdbf2b50048c0823f81349ebd1e2677516a6cd007eaaff30b6070d62cf557", func := "loop.example/cothreads/laws.FnCountBlock", spec := "fnCountBlock", unfollowed := true, recurses := true, apart := false, narrowed := true }
def FnCountBlockUptoSaid : Prop := fnCountBlockUptoRow.holds Try.pinned (OpenSpec.upto fnCountBlockSpec)

/-- 'laws.FnExactStmtsCount', WHERE WHAT IT READS IS OF BULK AT MOST 1048576: true; the input reads as it did. -/
def fnExactStmtsCountUptoRow : OpenClaim := { program := "ytpifdlpieglhlaa", sum := "d03cdbf2b50048c0823f81349ebd1e2677516a6cd007eaaff30b6070d62cf557", func := "loop.example/cothreads/laws.FnExactStmtsCount", spec := "fnExactStmtsCount", unfollowed := true, recurses := true, loops := true, apart := false, narrowed := true }
def FnExactStmtsCountUptoSaid : Prop := fnExactStmtsCountUptoRow.holds Try.pinned (OpenSpec.upto fnExactStmtsCountSpec)

end Rows
end Go.Proofs.Ytpifdlpieglhlaa

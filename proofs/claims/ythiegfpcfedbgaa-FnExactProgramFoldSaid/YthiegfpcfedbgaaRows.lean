/-
  NARROWER THAN 'FOR EVERY INPUT', by the rows' own cells (each row's printed sentence says how): FnExactExprFold: loops · FnExactStmtsFold: loops · FnExactProgramFold: loops.
  DERIVED. THE GIVEN ROWS OF THIS SEAT. 3 by the template 'for every input the law returns true; each argument reads behind the call as it read before'; 0 by the template 'total and deterministic' (their statements: YthiegfpcfedbgaaTotals.lean).
  GIVEN WITH THE SEED: the statements are not yours to turn. If you find one false, say at which input.
  Laid BY PROGRAM, IN A SANDBOX (cutbox-rows.mjs): the forced cells as the released guide's own fill.sh prints them over the translation 666d1adcbbd138a4… (all of the seat's roots in one cut). By AI agents, Wed Nov 11 2026. No macro, syntax, notation, axiom, sorry.
-/
import Derived.Test.YthiegfpcfedbgaaChecked
import GoSem.Claim
import GoSem.ClaimJoined
import GoSem.ClaimMapViews
import Derived.JoinedTies
import Derived.KernelRfl
namespace Go.Proofs.Ythiegfpcfedbgaa
/- THE CELL 'sum', in the pinned program and in every row, IS THE sha256 OF THE DUMP (.gsa) THAT YthiegfpcfedbgaaProg.lean LOADS. Nothing in Lean hashes anything: it is a label: what it is worth is what the hold of that sum in a sandbox is worth. -/
noncomputable def Try.pinned : Pinned := { name := "ythiegfpcfedbgaa", sum := "666d1adcbbd138a45e07239f2543b958ada033353045e91fdb3e676c9bd870f9", checked := Try.checked }
namespace Rows
def none {H : Type} : Left H := { results := [], args := [] }

/-- 'laws.FnExactExprFold': WHATEVER THE INPUT: true; the input reads as it did. -/
def fnExactExprFoldSpec : ChangeSpec := { name := "fnExactExprFold", fn := fun _ => fun
  | [d] => { results := [.lit (.bool true)], args := [d] }
  | _ => none }
def fnExactExprFoldRow : OpenClaim := { program := "ythiegfpcfedbgaa", sum := "666d1adcbbd138a45e07239f2543b958ada033353045e91fdb3e676c9bd870f9", func := "loop.example/cothreads/laws.FnExactExprFold", spec := "fnExactExprFold", recurses := true, loops := true, apart := false }
def FnExactExprFoldSaid : Prop := fnExactExprFoldRow.holds Try.pinned (OpenSpec.ofChange fnExactExprFoldSpec)

/-- ITS FALSE NEIGHBOUR: 'it returns false'. Refute it at one input. -/
def fnExactExprFoldWrong : ChangeSpec := { name := "fnExactExprFold", fn := fun _ => fun
  | [d] => { results := [.lit (.bool false)], args := [d] }
  | _ => none }
def FnExactExprFoldWrongFalsely : Prop := fnExactExprFoldRow.holds Try.pinned (OpenSpec.ofChange fnExactExprFoldWrong)

/-- 'laws.FnExactStmtsFold': WHATEVER THE INPUT: true; the input reads as it did. -/
def fnExactStmtsFoldSpec : ChangeSpec := { name := "fnExactStmtsFold", fn := fun _ => fun
  | [d] => { results := [.lit (.bool true)], args := [d] }
  | _ => none }
def fnExactStmtsFoldRow : OpenClaim := { program := "ythiegfpcfedbgaa", sum := "666d1adcbbd138a45e07239f2543b958ada033353045e91fdb3e676c9bd870f9", func := "loop.example/cothreads/laws.FnExactStmtsFold", spec := "fnExactStmtsFold", unfollowed := true, recurses := true, loops := true, apart := false }
def FnExactStmtsFoldSaid : Prop := fnExactStmtsFoldRow.holds Try.pinned (OpenSpec.ofChange fnExactStmtsFoldSpec)

/-- ITS FALSE NEIGHBOUR: 'it returns false'. Refute it at one input. -/
def fnExactStmtsFoldWrong : ChangeSpec := { name := "fnExactStmtsFold", fn := fun _ => fun
  | [d] => { results := [.lit (.bool false)], args := [d] }
  | _ => none }
def FnExactStmtsFoldWrongFalsely : Prop := fnExactStmtsFoldRow.holds Try.pinned (OpenSpec.ofChange fnExactStmtsFoldWrong)

/-- 'laws.FnExactProgramFold': WHATEVER THE INPUT: true; the input reads as it did. -/
def fnExactProgramFoldSpec : ChangeSpec := { name := "fnExactProgramFold", fn := fun _ => fun
  | [d] => { results := [.lit (.bool true)], args := [d] }
  | _ => none }
def fnExactProgramFoldRow : OpenClaim := { program := "ythiegfpcfedbgaa", sum := "666d1adcbbd138a45e07239f2543b958ada033353045e91fdb3e676c9bd870f9", func := "loop.example/cothreads/laws.FnExactProgramFold", spec := "fnExactProgramFold", unfollowed := true, recurses := true, loops := true, apart := false }
def FnExactProgramFoldSaid : Prop := fnExactProgramFoldRow.holds Try.pinned (OpenSpec.ofChange fnExactProgramFoldSpec)

/-- ITS FALSE NEIGHBOUR: 'it returns false'. Refute it at one input. -/
def fnExactProgramFoldWrong : ChangeSpec := { name := "fnExactProgramFold", fn := fun _ => fun
  | [d] => { results := [.lit (.bool false)], args := [d] }
  | _ => none }
def FnExactProgramFoldWrongFalsely : Prop := fnExactProgramFoldRow.holds Try.pinned (OpenSpec.ofChange fnExactProgramFoldWrong)

/- THE SECOND FORM. 'bulk': how many values and letters a reading holds, each counted each time it is reached (what is shared counts as often as it is met; a slice's spare places count too). A statement '..UptoSaid' is the law's where the arguments, and the package variables that the reading takes, are together of bulk at most 1048576: NARROWER than '..Said'. Prove '..Said' where nothing that the law and all that it calls make is longer than what came in: it says more and counts as full. Else prove '..UptoSaid'. A law counts once. -/
mutual
def uptoBulk {H : Type} : DataW H → Nat
  | .lit (.string bytes) => bytes.length + 1
  | .lit _ => 1
  | .nil => 1
  | .ptr d => uptoBulk d + 1
  | .slice elems spare => uptoBulkAll elems + uptoBulkAll spare + 1
  | .agg parts => uptoBulkAll parts + 1
  | .iface _ d => uptoBulk d + 1
  | .map entries => uptoBulkEntries entries + 1
  | .held _ => 1
def uptoBulkAll {H : Type} : List (DataW H) → Nat
  | [] => 0
  | d :: r => uptoBulk d + uptoBulkAll r
def uptoBulkEntries {H : Type} : List (Lit × DataW H) → Nat
  | [] => 0
  | x :: r => uptoBulkEntry x + uptoBulkEntries r
def uptoBulkEntry {H : Type} : Lit × DataW H → Nat
  | (.string bytes, d) => bytes.length + uptoBulk d + 1
  | (_, d) => uptoBulk d + 1
 end
def uptoSmall : (H : Type) → List (DataW H) → Bool := fun _ ds => decide (uptoBulkAll ds ≤ 1048576)
def OpenSpec.upto (s : _root_.Go.ChangeSpec) : _root_.Go.OpenSpec := { _root_.Go.OpenSpec.ofChange s with cond := some uptoSmall }

/-- 'laws.FnExactExprFold', WHERE WHAT IT READS IS OF BULK AT MOST 1048576: true; the input reads as it did. -/
def fnExactExprFoldUptoRow : OpenClaim := { program := "ythiegfpcfedbgaa", sum := "666d1adcbbd138a45e07239f2543b958ada033353045e91fdb3e676c9bd870f9", func := "loop.example/cothreads/laws.FnExactExprFold", spec := "fnExactExprFold", recurses := true, loops := true, apart := false, narrowed := true }
def FnExactExprFoldUptoSaid : Prop := fnExactExprFoldUptoRow.holds Try.pinned (OpenSpec.upto fnExactExprFoldSpec)

/-- 'laws.FnExactStmtsFold', WHERE WHAT IT READS IS OF BULK AT MOST 1048576: true; the input reads as it did. -/
def fnExactStmtsFoldUptoRow : OpenClaim := { program := "ythiegfpcfedbgaa", sum := "666d1adcbbd138a45e07239f2543b958ada033353045e91fdb3e676c9bd870f9", func := "loop.example/cothreads/laws.FnExactStmtsFold", spec := "fnExactStmtsFold", unfollowed := true, recurses := true, loops := true, apart := false, narrowed := true }
def FnExactStmtsFoldUptoSaid : Prop := fnExactStmtsFoldUptoRow.holds Try.pinned (OpenSpec.upto fnExactStmtsFoldSpec)

/-- 'laws.FnExactProgramFold', WHERE WHAT IT READS IS OF BULK AT MOST 1048576: true; the input reads as it did. -/
def fnExactProgramFoldUptoRow : OpenClaim := { program := "ythiegfpcfedbgaa", sum := "666d1adcbbd138a45e07239f2543b958ada033353045e91fdb3e676c9bd870f9", func := "loop.example/cothreads/laws.FnExactProgramFold", spec := "fnExactProgramFold", unfollowed := true, recurses := true, loops := true, apart := false, narrowed := true }
def FnExactProgramFoldUptoSaid : Prop := fnExactProgramFoldUptoRow.holds Try.pinned (OpenSpec.upto fnExactProgramFoldSpec)

end Rows
end Go.Proofs.Ythiegfpcfedbgaa

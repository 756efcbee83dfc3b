/-
  NARROWER THAN 'FOR EVERY INPUT', by the rows' own cells (each row's printed sentence says how): FnExactExprEval: loops · FnExactExprFold: loops.
  DERIVED. THE GIVEN ROWS OF THIS SEAT. 11 by the template 'for every input the law returns true; each argument reads behind the call as it read before'; 0 by the template 'total and deterministic' (their statements: YtajifknepdikbaaTotals.lean).
  GIVEN WITH THE SEED: the statements are not yours to turn. If you find one false, say at which input.
  Laid BY PROGRAM, IN A SANDBOX (cutbox-rows.mjs): the forced cells as the released guide's own fill.sh prints them over the translation e33a47b12b352da7… (all of the seat's roots in one cut). By AI agents, Wed Nov 11 2026. No macro, syntax, notation, axiom, sorry.
-/
import Derived.Test.YtajifknepdikbaaChecked
import GoSem.Claim
import GoSem.ClaimJoined
import GoSem.ClaimMapViews
import Derived.JoinedTies
import Derived.KernelRfl
namespace Go.Proofs.Ytajifknepdikbaa
/- THE CELL 'sum', in the pinned program and in every row, IS THE sha256 OF THE DUMP (.gsa) THAT YtajifknepdikbaaProg.lean LOADS. Nothing in Lean hashes anything: it is a label: what it is worth is what the hold of that sum in a sandbox is worth. -/
noncomputable def Try.pinned : Pinned := { name := "ytajifknepdikbaa", sum := "e33a47b12b352da7125b94db41286fc499a0a76435f5cdbff8fc32ea2acaf7aa", checked := Try.checked }
namespace Rows
def none {H : Type} : Left H := { results := [], args := [] }

/-- 'laws.FnExpr': WHATEVER THE INPUT: true; the input reads as it did. -/
def fnExprSpec : ChangeSpec := { name := "fnExpr", fn := fun _ => fun
  | [d] => { results := [.lit (.bool true)], args := [d] }
  | _ => none }
def fnExprRow : OpenClaim := { program := "ytajifknepdikbaa", sum := "e33a47b12b352da7125b94db41286fc499a0a76435f5cdbff8fc32ea2acaf7aa", func := "loop.example/cothreads/laws.FnExpr", spec := "fnExpr", recurses := true, apart := false }
def FnExprSaid : Prop := fnExprRow.holds Try.pinned (OpenSpec.ofChange fnExprSpec)

/-- ITS FALSE NEIGHBOUR: 'it returns false'. Refute it at one input. -/
def fnExprWrong : ChangeSpec := { name := "fnExpr", fn := fun _ => fun
  | [d] => { results := [.lit (.bool false)], args := [d] }
  | _ => none }
def FnExprWrongFalsely : Prop := fnExprRow.holds Try.pinned (OpenSpec.ofChange fnExprWrong)

/-- 'laws.FnExprDeeper': WHATEVER THE INPUT: true; the input reads as it did. -/
def fnExprDeeperSpec : ChangeSpec := { name := "fnExprDeeper", fn := fun _ => fun
  | [d] => { results := [.lit (.bool true)], args := [d] }
  | _ => none }
def fnExprDeeperRow : OpenClaim := { program := "ytajifknepdikbaa", sum := "e33a47b12b352da7125b94db41286fc499a0a76435f5cdbff8fc32ea2acaf7aa", func := "loop.example/cothreads/laws.FnExprDeeper", spec := "fnExprDeeper", recurses := true, apart := false }
def FnExprDeeperSaid : Prop := fnExprDeeperRow.holds Try.pinned (OpenSpec.ofChange fnExprDeeperSpec)

/-- ITS FALSE NEIGHBOUR: 'it returns false'. Refute it at one input. -/
def fnExprDeeperWrong : ChangeSpec := { name := "fnExprDeeper", fn := fun _ => fun
  | [d] => { results := [.lit (.bool false)], args := [d] }
  | _ => none }
def FnExprDeeperWrongFalsely : Prop := fnExprDeeperRow.holds Try.pinned (OpenSpec.ofChange fnExprDeeperWrong)

/-- 'laws.FnExactExprEval': WHATEVER THE INPUT: true; the input reads as it did. -/
def fnExactExprEvalSpec : ChangeSpec := { name := "fnExactExprEval", fn := fun _ => fun
  | [d1, d2] => { results := [.lit (.bool true)], args := [d1, d2] }
  | _ => none }
def fnExactExprEvalRow : OpenClaim := { program := "ytajifknepdikbaa", sum := "e33a47b12b352da7125b94db41286fc499a0a76435f5cdbff8fc32ea2acaf7aa", func := "loop.example/cothreads/laws.FnExactExprEval", spec := "fnExactExprEval", recurses := true, loops := true, apart := false }
def FnExactExprEvalSaid : Prop := fnExactExprEvalRow.holds Try.pinned (OpenSpec.ofChange fnExactExprEvalSpec)

/-- ITS FALSE NEIGHBOUR: 'it returns false'. Refute it at one input. -/
def fnExactExprEvalWrong : ChangeSpec := { name := "fnExactExprEval", fn := fun _ => fun
  | [d1, d2] => { results := [.lit (.bool false)], args := [d1, d2] }
  | _ => none }
def FnExactExprEvalWrongFalsely : Prop := fnExactExprEvalRow.holds Try.pinned (OpenSpec.ofChange fnExactExprEvalWrong)

/-- 'laws.FnExactExprFold': WHATEVER THE INPUT: true; the input reads as it did. -/
def fnExactExprFoldSpec : ChangeSpec := { name := "fnExactExprFold", fn := fun _ => fun
  | [d] => { results := [.lit (.bool true)], args := [d] }
  | _ => none }
def fnExactExprFoldRow : OpenClaim := { program := "ytajifknepdikbaa", sum := "e33a47b12b352da7125b94db41286fc499a0a76435f5cdbff8fc32ea2acaf7aa", func := "loop.example/cothreads/laws.FnExactExprFold", spec := "fnExactExprFold", recurses := true, loops := true, apart := false }
def FnExactExprFoldSaid : Prop := fnExactExprFoldRow.holds Try.pinned (OpenSpec.ofChange fnExactExprFoldSpec)

/-- ITS FALSE NEIGHBOUR: 'it returns false'. Refute it at one input. -/
def fnExactExprFoldWrong : ChangeSpec := { name := "fnExactExprFold", fn := fun _ => fun
  | [d] => { results := [.lit (.bool false)], args := [d] }
  | _ => none }
def FnExactExprFoldWrongFalsely : Prop := fnExactExprFoldRow.holds Try.pinned (OpenSpec.ofChange fnExactExprFoldWrong)

/-- 'laws.FnEval': WHATEVER THE INPUT: true; the input reads as it did. -/
def fnEvalSpec : ChangeSpec := { name := "fnEval", fn := fun _ => fun
  | [d] => { results := [.lit (.bool true)], args := [d] }
  | _ => none }
def fnEvalRow : OpenClaim := { program := "ytajifknepdikbaa", sum := "e33a47b12b352da7125b94db41286fc499a0a76435f5cdbff8fc32ea2acaf7aa", func := "loop.example/cothreads/laws.FnEval", spec := "fnEval", recurses := true, apart := false }
def FnEvalSaid : Prop := fnEvalRow.holds Try.pinned (OpenSpec.ofChange fnEvalSpec)

/-- ITS FALSE NEIGHBOUR: 'it returns false'. Refute it at one input. -/
def fnEvalWrong : ChangeSpec := { name := "fnEval", fn := fun _ => fun
  | [d] => { results := [.lit (.bool false)], args := [d] }
  | _ => none }
def FnEvalWrongFalsely : Prop := fnEvalRow.holds Try.pinned (OpenSpec.ofChange fnEvalWrong)

/-- 'laws.FnEvalSwap': WHATEVER THE INPUT: true; the input reads as it did. -/
def fnEvalSwapSpec : ChangeSpec := { name := "fnEvalSwap", fn := fun _ => fun
  | [d] => { results := [.lit (.bool true)], args := [d] }
  | _ => none }
def fnEvalSwapRow : OpenClaim := { program := "ytajifknepdikbaa", sum := "e33a47b12b352da7125b94db41286fc499a0a76435f5cdbff8fc32ea2acaf7aa", func := "loop.example/cothreads/laws.FnEvalSwap", spec := "fnEvalSwap", recurses := true, apart := false }
def FnEvalSwapSaid : Prop := fnEvalSwapRow.holds Try.pinned (OpenSpec.ofChange fnEvalSwapSpec)

/-- ITS FALSE NEIGHBOUR: 'it returns false'. Refute it at one input. -/
def fnEvalSwapWrong : ChangeSpec := { name := "fnEvalSwap", fn := fun _ => fun
  | [d] => { results := [.lit (.bool false)], args := [d] }
  | _ => none }
def FnEvalSwapWrongFalsely : Prop := fnEvalSwapRow.holds Try.pinned (OpenSpec.ofChange fnEvalSwapWrong)

/-- 'laws.FnEvalUnused': WHATEVER THE INPUT: true; the input reads as it did. -/
def fnEvalUnusedSpec : ChangeSpec := { name := "fnEvalUnused", fn := fun _ => fun
  | [d1, d2] => { results := [.lit (.bool true)], args := [d1, d2] }
  | _ => none }
def fnEvalUnusedRow : OpenClaim := { program := "ytajifknepdikbaa", sum := "e33a47b12b352da7125b94db41286fc499a0a76435f5cdbff8fc32ea2acaf7aa", func := "loop.example/cothreads/laws.FnEvalUnused", spec := "fnEvalUnused", recurses := true, apart := false }
def FnEvalUnusedSaid : Prop := fnEvalUnusedRow.holds Try.pinned (OpenSpec.ofChange fnEvalUnusedSpec)

/-- ITS FALSE NEIGHBOUR: 'it returns false'. Refute it at one input. -/
def fnEvalUnusedWrong : ChangeSpec := { name := "fnEvalUnused", fn := fun _ => fun
  | [d1, d2] => { results := [.lit (.bool false)], args := [d1, d2] }
  | _ => none }
def FnEvalUnusedWrongFalsely : Prop := fnEvalUnusedRow.holds Try.pinned (OpenSpec.ofChange fnEvalUnusedWrong)

/-- 'laws.FnFoldSmaller': WHATEVER THE INPUT: true; the input reads as it did. -/
def fnFoldSmallerSpec : ChangeSpec := { name := "fnFoldSmaller", fn := fun _ => fun
  | [d] => { results := [.lit (.bool true)], args := [d] }
  | _ => none }
def fnFoldSmallerRow : OpenClaim := { program := "ytajifknepdikbaa", sum := "e33a47b12b352da7125b94db41286fc499a0a76435f5cdbff8fc32ea2acaf7aa", func := "loop.example/cothreads/laws.FnFoldSmaller", spec := "fnFoldSmaller", recurses := true, apart := false }
def FnFoldSmallerSaid : Prop := fnFoldSmallerRow.holds Try.pinned (OpenSpec.ofChange fnFoldSmallerSpec)

/-- ITS FALSE NEIGHBOUR: 'it returns false'. Refute it at one input. -/
def fnFoldSmallerWrong : ChangeSpec := { name := "fnFoldSmaller", fn := fun _ => fun
  | [d] => { results := [.lit (.bool false)], args := [d] }
  | _ => none }
def FnFoldSmallerWrongFalsely : Prop := fnFoldSmallerRow.holds Try.pinned (OpenSpec.ofChange fnFoldSmallerWrong)

/-- 'laws.FnEvalApply': WHATEVER THE INPUT: true; the input reads as it did. -/
def fnEvalApplySpec : ChangeSpec := { name := "fnEvalApply", fn := fun _ => fun
  | [d] => { results := [.lit (.bool true)], args := [d] }
  | _ => none }
def fnEvalApplyRow : OpenClaim := { program := "ytajifknepdikbaa", sum := "e33a47b12b352da7125b94db41286fc499a0a76435f5cdbff8fc32ea2acaf7aa", func := "loop.example/cothreads/laws.FnEvalApply", spec := "fnEvalApply", recurses := true, apart := false }
def FnEvalApplySaid : Prop := fnEvalApplyRow.holds Try.pinned (OpenSpec.ofChange fnEvalApplySpec)

/-- ITS FALSE NEIGHBOUR: 'it returns false'. Refute it at one input. -/
def fnEvalApplyWrong : ChangeSpec := { name := "fnEvalApply", fn := fun _ => fun
  | [d] => { results := [.lit (.bool false)], args := [d] }
  | _ => none }
def FnEvalApplyWrongFalsely : Prop := fnEvalApplyRow.holds Try.pinned (OpenSpec.ofChange fnEvalApplyWrong)

/-- 'laws.FnEvalMinus': WHATEVER THE INPUT: true; the input reads as it did. -/
def fnEvalMinusSpec : ChangeSpec := { name := "fnEvalMinus", fn := fun _ => fun
  | [d] => { results := [.lit (.bool true)], args := [d] }
  | _ => none }
def fnEvalMinusRow : OpenClaim := { program := "ytajifknepdikbaa", sum := "e33a47b12b352da7125b94db41286fc499a0a76435f5cdbff8fc32ea2acaf7aa", func := "loop.example/cothreads/laws.FnEvalMinus", spec := "fnEvalMinus", recurses := true, apart := false }
def FnEvalMinusSaid : Prop := fnEvalMinusRow.holds Try.pinned (OpenSpec.ofChange fnEvalMinusSpec)

/-- ITS FALSE NEIGHBOUR: 'it returns false'. Refute it at one input. -/
def fnEvalMinusWrong : ChangeSpec := { name := "fnEvalMinus", fn := fun _ => fun
  | [d] => { results := [.lit (.bool false)], args := [d] }
  | _ => none }
def FnEvalMinusWrongFalsely : Prop := fnEvalMinusRow.holds Try.pinned (OpenSpec.ofChange fnEvalMinusWrong)

/-- 'laws.FnFoldEval': WHATEVER THE INPUT: true; the input reads as it did. -/
def fnFoldEvalSpec : ChangeSpec := { name := "fnFoldEval", fn := fun _ => fun
  | [d1, d2] => { results := [.lit (.bool true)], args := [d1, d2] }
  | _ => none }
def fnFoldEvalRow : OpenClaim := { program := "ytajifknepdikbaa", sum := "e33a47b12b352da7125b94db41286fc499a0a76435f5cdbff8fc32ea2acaf7aa", func := "loop.example/cothreads/laws.FnFoldEval", spec := "fnFoldEval", recurses := true, apart := false }
def FnFoldEvalSaid : Prop := fnFoldEvalRow.holds Try.pinned (OpenSpec.ofChange fnFoldEvalSpec)

/-- ITS FALSE NEIGHBOUR: 'it returns false'. Refute it at one input. -/
def fnFoldEvalWrong : ChangeSpec := { name := "fnFoldEval", fn := fun _ => fun
  | [d1, d2] => { results := [.lit (.bool false)], args := [d1, d2] }
  | _ => none }
def FnFoldEvalWrongFalsely : Prop := fnFoldEvalRow.holds Try.pinned (OpenSpec.ofChange fnFoldEvalWrong)

/- THE SECOND FORM. 'bulk': how many values and letters a reading holds, each counted each time it is reached (what is shared counts as often as it is met; a slice's spare places count too). A statement '..UptoSaid' is the law's where the arguments, and the package variables that the reading takes, are together of bulk at most 1048576: NARROWER than '..Said'. Prove '..Said' where nothing that the law and all that it calls make is longer than what came in: it says more and counts as full. Else prove '..UptoSaid'. A law counts once. -/
mutual
def uptoBulk {H : Type} : DataW H → Nat
  | .lit (.string bytes) => bytes.length + 1
  | .lit _ => 1
  | .nil => 1
  | .ptr d => uptoBulk d + 1
  | .slice elems spare => uptoBulkAll elems + uptoBulkAll spare + 1
  | .agg parts => uptoBulkAll parts + 1
  | .iface _ d => uptoBulk d + 1
  | .map entries => uptoBulkEntries entries + 1
  | .held _ => 1
def uptoBulkAll {H : Type} : List (DataW H) → Nat
  | [] => 0
  | d :: r => uptoBulk d + uptoBulkAll r
def uptoBulkEntries {H : Type} : List (Lit × DataW H) → Nat
  | [] => 0
  | x :: r => uptoBulkEntry x + uptoBulkEntries r
def uptoBulkEntry {H : Type} : Lit × DataW H → Nat
  | (.string bytes, d) => bytes.length + uptoBulk d + 1
  | (_, d) => uptoBulk d + 1
 end
def uptoSmall : (H : Type) → List (DataW H) → Bool := fun _ ds => decide (uptoBulkAll ds ≤ 1048576)
def OpenSpec.upto (s : _root_.Go.ChangeSpec) : _root_.Go.OpenSpec := { _root_.Go.OpenSpec.ofChange s with cond := some uptoSmall }

/-- 'laws.FnExpr', WHERE WHAT IT READS IS OF BULK AT MOST 1048576: true; the input reads as it did. -/
def fnExprUptoRow : OpenClaim := { program := "ytajifknepdikbaa", sum := "e33a47b12b352da7125b94db41286fc499a0a76435f5cdbff8fc32ea2acaf7aa", func := "loop.example/cothreads/laws.FnExpr", spec := "fnExpr", recurses := true, apart := false, narrowed := true }
def FnExprUptoSaid : Prop := fnExprUptoRow.holds Try.pinned (OpenSpec.upto fnExprSpec)

/-- 'laws.FnExprDeeper', WHERE WHAT IT READS IS OF BULK AT MOST 1048576: true; the input reads as it did. -/
def fnExprDeeperUptoRow : OpenClaim := { program := "ytajifknepdikbaa", sum := "e33a47b12b352da7125b94db41286fc499a0a76435f5cdbff8fc32ea2acaf7aa", func := "loop.example/cothreads/laws.FnExprDeeper", spec := "fnExprDeeper", recurses := true, apart := false, narrowed := true }
def FnExprDeeperUptoSaid : Prop := fnExprDeeperUptoRow.holds Try.pinned (OpenSpec.upto fnExprDeeperSpec)

/-- 'laws.FnExactExprEval', WHERE WHAT IT READS IS OF BULK AT MOST 1048576: true; the input reads as it did. -/
def fnExactExprEvalUptoRow : OpenClaim := { program := "ytajifknepdikbaa", sum := "e33a47b12b352da7125b94db41286fc499a0a76435f5cdbff8fc32ea2acaf7aa", func := "loop.example/cothreads/laws.FnExactExprEval", spec := "fnExactExprEval", recurses := true, loops := true, apart := false, narrowed := true }
def FnExactExprEvalUptoSaid : Prop := fnExactExprEvalUptoRow.holds Try.pinned (OpenSpec.upto fnExactExprEvalSpec)

/-- 'laws.FnExactExprFold', WHERE WHAT IT READS IS OF BULK AT MOST 1048576: true; the input reads as it did. -/
def fnExactExprFoldUptoRow : OpenClaim := { program := "ytajifknepdikbaa", sum := "e33a47b12b352da7125b94db41286fc499a0a76435f5cdbff8fc32ea2acaf7aa", func := "loop.example/cothreads/laws.FnExactExprFold", spec := "fnExactExprFold", recurses := true, loops := true, apart := false, narrowed := true }
def FnExactExprFoldUptoSaid : Prop := fnExactExprFoldUptoRow.holds Try.pinned (OpenSpec.upto fnExactExprFoldSpec)

/-- 'laws.FnEval', WHERE WHAT IT READS IS OF BULK AT MOST 1048576: true; the input reads as it did. -/
def fnEvalUptoRow : OpenClaim := { program := "ytajifknepdikbaa", sum := "e33a47b12b352da7125b94db41286fc499a0a76435f5cdbff8fc32ea2acaf7aa", func := "loop.example/cothreads/laws.FnEval", spec := "fnEval", recurses := true, apart := false, narrowed := true }
def FnEvalUptoSaid : Prop := fnEvalUptoRow.holds Try.pinned (OpenSpec.upto fnEvalSpec)

/-- 'laws.FnEvalSwap', WHERE WHAT IT READS IS OF BULK AT MOST 1048576: true; the input reads as it did. -/
def fnEvalSwapUptoRow : OpenClaim := { program := "ytajifknepdikbaa", sum := "e33a47b12b352da7125b94db41286fc499a0a76435f5cdbff8fc32ea2acaf7aa", func := "loop.example/cothreads/laws.FnEvalSwap", spec := "fnEvalSwap", recurses := true, apart := false, narrowed := true }
def FnEvalSwapUptoSaid : Prop := fnEvalSwapUptoRow.holds Try.pinned (OpenSpec.upto fnEvalSwapSpec)

/-- 'laws.FnEvalUnused', WHERE WHAT IT READS IS OF BULK AT MOST 1048576: true; the input reads as it did. -/
def fnEvalUnusedUptoRow : OpenClaim := { program := "ytajifknepdikbaa", sum := "e33a47b12b352da7125b94db41286fc499a0a76435f5cdbff8fc32ea2acaf7aa", func := "loop.example/cothreads/laws.FnEvalUnused", spec := "fnEvalUnused", recurses := true, apart := false, narrowed := true }
def FnEvalUnusedUptoSaid : Prop := fnEvalUnusedUptoRow.holds Try.pinned (OpenSpec.upto fnEvalUnusedSpec)

/-- 'laws.FnFoldSmaller', WHERE WHAT IT READS IS OF BULK AT MOST 1048576: true; the input reads as it did. -/
def fnFoldSmallerUptoRow : OpenClaim := { program := "ytajifknepdikbaa", sum := "e33a47b12b352da7125b94db41286fc499a0a76435f5cdbff8fc32ea2acaf7aa", func := "loop.example/cothreads/laws.FnFoldSmaller", spec := "fnFoldSmaller", recurses := true, apart := false, narrowed := true }
def FnFoldSmallerUptoSaid : Prop := fnFoldSmallerUptoRow.holds Try.pinned (OpenSpec.upto fnFoldSmallerSpec)

/-- 'laws.FnEvalApply', WHERE WHAT IT READS IS OF BULK AT MOST 1048576: true; the input reads as it did. -/
def fnEvalApplyUptoRow : OpenClaim := { program := "ytajifknepdikbaa", sum := "e33a47b12b352da7125b94db41286fc499a0a76435f5cdbff8fc32ea2acaf7aa", func := "loop.example/cothreads/laws.FnEvalApply", spec := "fnEvalApply", recurses := true, apart := false, narrowed := true }
def FnEvalApplyUptoSaid : Prop := fnEvalApplyUptoRow.holds Try.pinned (OpenSpec.upto fnEvalApplySpec)

/-- 'laws.FnEvalMinus', WHERE WHAT IT READS IS OF BULK AT MOST 1048576: true; the input reads as it did. -/
def fnEvalMinusUptoRow : OpenClaim := { program := "ytajifknepdikbaa", sum := "e33a47b12b352da7125b94db41286fc499a0a76435f5cdbff8fc32ea2acaf7aa", func := "loop.example/cothreads/laws.FnEvalMinus", spec := "fnEvalMinus", recurses := true, apart := false, narrowed := true }
def FnEvalMinusUptoSaid : Prop := fnEvalMinusUptoRow.holds Try.pinned (OpenSpec.upto fnEvalMinusSpec)

/-- 'laws.FnFoldEval', WHERE WHAT IT READS IS OF BULK AT MOST 1048576: true; the input reads as it did. -/
def fnFoldEvalUptoRow : OpenClaim := { program := "ytajifknepdikbaa", sum := "e33a47b12b352da7125b94db41286fc499a0a76435f5cdbff8fc32ea2acaf7aa", func := "loop.example/cothreads/laws.FnFoldEval", spec := "fnFoldEval", recurses := true, apart := false, narrowed := true }
def FnFoldEvalUptoSaid : Prop := fnFoldEvalUptoRow.holds Try.pinned (OpenSpec.upto fnFoldEvalSpec)

end Rows
end Go.Proofs.Ytajifknepdikbaa

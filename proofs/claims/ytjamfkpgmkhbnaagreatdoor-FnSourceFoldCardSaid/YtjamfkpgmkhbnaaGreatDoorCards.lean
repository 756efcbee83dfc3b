/-
  DERIVED. GIVEN WITH THE SEED: THE CARDS: each row of YtjamfkpgmkhbnaaGreatDoorRows.lean that lists a variable, with what it lists TIED to the program's text (the seventh form; the later family's looks); each row that meets fmt, with fmt's text TOLD by the authors' own Lean function (tested against real Go, not proved from fmt's source: count such statements apart). THE CARD IS WHAT COUNTS. Prove the row's statement (the work); the ties are given (YtjamfkpgmkhbnaaGreatDoorTie.lean); close each card by the builder's one call (the guide's Derived/Test/ToyasCard.lean, 'card_holds'). Laid BY PROGRAM, IN A SANDBOX (cutbox-door.mjs). By AI agents, Wed Nov 11 2026. No macro, syntax, notation, axiom, sorry.
-/
import Derived.Test.YtjamfkpgmkhbnaaGreatDoorRows
import GoSem.ClaimSeven
namespace Go.Proofs.YtjamfkpgmkhbnaaGreatDoor
namespace Rows

/-- THE TIED CARD OF 'laws.FnSourceWords'. -/
def fnSourceWordsCard : Claim7 := { stood := { row := fnSourceWordsRow, standIns := [], harness := (true, "6319939d68464307a363ecc2164f61d695063f866b90f1a7d128986605ba939b"), looks := false }, kinds := [], alts := [], laidByText := true, laidKinds := [.data, .data, .data, .data], laidTests := true, laidLooks := .later }
def FnSourceWordsCardSaid : Prop := Claim7.holds Tryz.pinned (.plain (OpenSpec.ofChange fnSourceWordsSpec)) fnSourceWordsCard

/-- THE TIED CARD OF 'laws.FnExactProgramText'. -/
def fnExactProgramTextCard : Claim7 := { stood := { row := fnExactProgramTextRow, standIns := [], harness := (true, "6319939d68464307a363ecc2164f61d695063f866b90f1a7d128986605ba939b"), looks := false }, kinds := [], alts := [], laidByText := true, laidKinds := [.data, .data, .data, .data], laidTests := true, laidLooks := .later }
def FnExactProgramTextCardSaid : Prop := Claim7.holds Tryz.pinned (.plain (OpenSpec.ofChange fnExactProgramTextSpec)) fnExactProgramTextCard

/-- THE TIED CARD OF 'laws.FnSourceFold'. -/
def fnSourceFoldCard : Claim7 := { stood := { row := fnSourceFoldRow, standIns := [], harness := (true, "6319939d68464307a363ecc2164f61d695063f866b90f1a7d128986605ba939b"), looks := false }, kinds := [], alts := [], laidByText := true, laidKinds := [.data, .data, .data, .data], laidTests := true, laidLooks := .later }
def FnSourceFoldCardSaid : Prop := Claim7.holds Tryz.pinned (.plain (OpenSpec.ofChange fnSourceFoldSpec)) fnSourceFoldCard

/-- THE TIED CARD OF 'laws.FnSourceParts'. -/
def fnSourcePartsCard : Claim7 := { stood := { row := fnSourcePartsRow, standIns := [], harness := (true, "6319939d68464307a363ecc2164f61d695063f866b90f1a7d128986605ba939b"), looks := false }, kinds := [], alts := [], laidByText := true, laidKinds := [.data, .data, .data, .data], laidTests := true, laidLooks := .later }
def FnSourcePartsCardSaid : Prop := Claim7.holds Tryz.pinned (.plain (OpenSpec.ofChange fnSourcePartsSpec)) fnSourcePartsCard

/-- THE SECOND FORM's CARD OF 'laws.FnSourceWords'. -/
def fnSourceWordsUptoCard : Claim7 := { stood := { row := fnSourceWordsUptoRow, standIns := [], harness := (true, "6319939d68464307a363ecc2164f61d695063f866b90f1a7d128986605ba939b"), looks := false }, kinds := [], alts := [], laidByText := true, laidKinds := [.data, .data, .data, .data], laidTests := true, laidLooks := .later }
def FnSourceWordsUptoCardSaid : Prop := Claim7.holds Tryz.pinned (.plain (OpenSpec.upto fnSourceWordsSpec)) fnSourceWordsUptoCard

/-- THE SECOND FORM's CARD OF 'laws.FnExactProgramText'. -/
def fnExactProgramTextUptoCard : Claim7 := { stood := { row := fnExactProgramTextUptoRow, standIns := [], harness := (true, "6319939d68464307a363ecc2164f61d695063f866b90f1a7d128986605ba939b"), looks := false }, kinds := [], alts := [], laidByText := true, laidKinds := [.data, .data, .data, .data], laidTests := true, laidLooks := .later }
def FnExactProgramTextUptoCardSaid : Prop := Claim7.holds Tryz.pinned (.plain (OpenSpec.upto fnExactProgramTextSpec)) fnExactProgramTextUptoCard

/-- THE SECOND FORM's CARD OF 'laws.FnSourceFold'. -/
def fnSourceFoldUptoCard : Claim7 := { stood := { row := fnSourceFoldUptoRow, standIns := [], harness := (true, "6319939d68464307a363ecc2164f61d695063f866b90f1a7d128986605ba939b"), looks := false }, kinds := [], alts := [], laidByText := true, laidKinds := [.data, .data, .data, .data], laidTests := true, laidLooks := .later }
def FnSourceFoldUptoCardSaid : Prop := Claim7.holds Tryz.pinned (.plain (OpenSpec.upto fnSourceFoldSpec)) fnSourceFoldUptoCard

/-- THE SECOND FORM's CARD OF 'laws.FnSourceParts'. -/
def fnSourcePartsUptoCard : Claim7 := { stood := { row := fnSourcePartsUptoRow, standIns := [], harness := (true, "6319939d68464307a363ecc2164f61d695063f866b90f1a7d128986605ba939b"), looks := false }, kinds := [], alts := [], laidByText := true, laidKinds := [.data, .data, .data, .data], laidTests := true, laidLooks := .later }
def FnSourcePartsUptoCardSaid : Prop := Claim7.holds Tryz.pinned (.plain (OpenSpec.upto fnSourcePartsSpec)) fnSourcePartsUptoCard
end Rows
end Go.Proofs.YtjamfkpgmkhbnaaGreatDoor

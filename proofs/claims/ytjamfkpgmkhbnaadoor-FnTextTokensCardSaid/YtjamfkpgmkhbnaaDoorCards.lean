/-
  DERIVED. GIVEN WITH THE SEED: THE CARDS: each row of YtjamfkpgmkhbnaaDoorRows.lean that lists a variable, with what it lists TIED to the program's text (the seventh form; the later family's looks); each row that meets fmt, with fmt's text TOLD by the authors' own Lean function (tested against real Go, not proved from fmt's source: count such statements apart). THE CARD IS WHAT COUNTS. Prove the row's statement (the work); the ties are given (YtjamfkpgmkhbnaaDoorTie.lean); close each card by the builder's one call (the guide's Derived/Test/ToyasCard.lean, 'card_holds'). Laid BY PROGRAM, IN A SANDBOX (cutbox-door.mjs). By AI agents, Wed Nov 11 2026. No macro, syntax, notation, axiom, sorry.
-/
import Derived.Test.YtjamfkpgmkhbnaaDoorRows
import GoSem.ClaimSeven
namespace Go.Proofs.YtjamfkpgmkhbnaaDoor
namespace Rows

/-- THE TIED CARD OF 'laws.FnExactExprText'. -/
def fnExactExprTextCard : Claim7 := { stood := { row := fnExactExprTextRow, standIns := [], harness := (true, "074aa76f58c63e092fdfb1e84922bb698bae16a5b8af5cca1e999f65f2e3c0a8"), looks := false }, kinds := [], alts := [], laidByText := true, laidKinds := [.data, .data, .data, .data], laidTests := true, laidLooks := .later }
def FnExactExprTextCardSaid : Prop := Claim7.holds Tryd.pinned (.plain (OpenSpec.ofChange fnExactExprTextSpec)) fnExactExprTextCard

/-- THE TIED CARD OF 'laws.FnTextLeft'. -/
def fnTextLeftCard : Claim7 := { stood := { row := fnTextLeftRow, standIns := [], harness := (true, "074aa76f58c63e092fdfb1e84922bb698bae16a5b8af5cca1e999f65f2e3c0a8"), looks := false }, kinds := [], alts := [], laidByText := true, laidKinds := [.data, .data, .data, .data], laidTests := true, laidLooks := .later }
def FnTextLeftCardSaid : Prop := Claim7.holds Tryd.pinned (.plain (OpenSpec.ofChange fnTextLeftSpec)) fnTextLeftCard

/-- THE TIED CARD OF 'laws.FnTextTokens'. -/
def fnTextTokensCard : Claim7 := { stood := { row := fnTextTokensRow, standIns := [], harness := (true, "074aa76f58c63e092fdfb1e84922bb698bae16a5b8af5cca1e999f65f2e3c0a8"), looks := false }, kinds := [], alts := [], laidByText := true, laidKinds := [.data, .data, .data, .data], laidTests := true, laidLooks := .later }
def FnTextTokensCardSaid : Prop := Claim7.holds Tryd.pinned (.plain (OpenSpec.ofChange fnTextTokensSpec)) fnTextTokensCard

/-- THE SECOND FORM's CARD OF 'laws.FnExactExprText'. -/
def fnExactExprTextUptoCard : Claim7 := { stood := { row := fnExactExprTextUptoRow, standIns := [], harness := (true, "074aa76f58c63e092fdfb1e84922bb698bae16a5b8af5cca1e999f65f2e3c0a8"), looks := false }, kinds := [], alts := [], laidByText := true, laidKinds := [.data, .data, .data, .data], laidTests := true, laidLooks := .later }
def FnExactExprTextUptoCardSaid : Prop := Claim7.holds Tryd.pinned (.plain (OpenSpec.upto fnExactExprTextSpec)) fnExactExprTextUptoCard

/-- THE SECOND FORM's CARD OF 'laws.FnTextLeft'. -/
def fnTextLeftUptoCard : Claim7 := { stood := { row := fnTextLeftUptoRow, standIns := [], harness := (true, "074aa76f58c63e092fdfb1e84922bb698bae16a5b8af5cca1e999f65f2e3c0a8"), looks := false }, kinds := [], alts := [], laidByText := true, laidKinds := [.data, .data, .data, .data], laidTests := true, laidLooks := .later }
def FnTextLeftUptoCardSaid : Prop := Claim7.holds Tryd.pinned (.plain (OpenSpec.upto fnTextLeftSpec)) fnTextLeftUptoCard

/-- THE SECOND FORM's CARD OF 'laws.FnTextTokens'. -/
def fnTextTokensUptoCard : Claim7 := { stood := { row := fnTextTokensUptoRow, standIns := [], harness := (true, "074aa76f58c63e092fdfb1e84922bb698bae16a5b8af5cca1e999f65f2e3c0a8"), looks := false }, kinds := [], alts := [], laidByText := true, laidKinds := [.data, .data, .data, .data], laidTests := true, laidLooks := .later }
def FnTextTokensUptoCardSaid : Prop := Claim7.holds Tryd.pinned (.plain (OpenSpec.upto fnTextTokensSpec)) fnTextTokensUptoCard
end Rows
end Go.Proofs.YtjamfkpgmkhbnaaDoor

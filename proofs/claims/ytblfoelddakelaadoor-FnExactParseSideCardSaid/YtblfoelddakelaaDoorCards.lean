/-
  DERIVED. GIVEN WITH THE SEED: THE CARDS: each row of YtblfoelddakelaaDoorRows.lean that lists a variable, with what it lists TIED to the program's text (the seventh form; the later family's looks); each row that meets fmt, with fmt's text TOLD by the authors' own Lean function (tested against real Go, not proved from fmt's source: count such statements apart). THE CARD IS WHAT COUNTS. Prove the row's statement (the work); the ties are given (YtblfoelddakelaaDoorTie.lean); close each card by the builder's one call (the guide's Derived/Test/ToyasCard.lean, 'card_holds'). Laid BY PROGRAM, IN A SANDBOX (cutbox-door.mjs). By AI agents, Wed Nov 11 2026. No macro, syntax, notation, axiom, sorry.
-/
import Derived.Test.YtblfoelddakelaaDoorRows
import GoSem.ClaimSeven
namespace Go.Proofs.YtblfoelddakelaaDoor
namespace Rows

/-- THE TIED CARD OF 'laws.FnExactEventText'. -/
def fnExactEventTextCard : Claim7 := { stood := { row := fnExactEventTextRow, standIns := [], harness := (true, "32cddb8cc66c9cbd92ee0287cd00536c6170520c26d3c151968fe0cbad2d532d"), looks := true }, kinds := [], alts := [], laidByText := true, laidKinds := [.data, .data, .data], laidTests := true, laidLooks := .later }
def FnExactEventTextCardSaid : Prop := Claim7.holds Tryd.pinned (.plain (OpenSpec.ofChange fnExactEventTextSpec)) fnExactEventTextCard

/-- THE TIED CARD OF 'laws.FnExactSideText'. -/
def fnExactSideTextCard : Claim7 := { stood := { row := fnExactSideTextRow, standIns := [], harness := (true, "32cddb8cc66c9cbd92ee0287cd00536c6170520c26d3c151968fe0cbad2d532d"), looks := true }, kinds := [], alts := [], laidByText := true, laidKinds := [.data, .data, .data], laidTests := true, laidLooks := .later }
def FnExactSideTextCardSaid : Prop := Claim7.holds Tryd.pinned (.plain (OpenSpec.ofChange fnExactSideTextSpec)) fnExactSideTextCard

/-- THE TIED CARD OF 'laws.FnExactSetupText'. -/
def fnExactSetupTextCard : Claim7 := { stood := { row := fnExactSetupTextRow, standIns := [], harness := (true, "32cddb8cc66c9cbd92ee0287cd00536c6170520c26d3c151968fe0cbad2d532d"), looks := true }, kinds := [], alts := [], laidByText := true, laidKinds := [.data, .data, .data, .data, .pinned], laidTests := true, laidLooks := .later }
def FnExactSetupTextCardSaid : Prop := Claim7.holds Tryd.pinned (.plain (OpenSpec.ofChange fnExactSetupTextSpec)) fnExactSetupTextCard

/-- THE TIED CARD OF 'laws.FnExactParseSide'. -/
def fnExactParseSideCard : Claim7 := { stood := { row := fnExactParseSideRow, standIns := [], harness := (true, "32cddb8cc66c9cbd92ee0287cd00536c6170520c26d3c151968fe0cbad2d532d"), looks := true }, kinds := [], alts := [], laidByText := true, laidKinds := [.data, .data, .data, .data, .sentinel, .sentinel, .pinned], laidTests := true, laidLooks := .later }
def FnExactParseSideCardSaid : Prop := Claim7.holds Tryd.pinned (.plain (OpenSpec.ofChange fnExactParseSideSpec)) fnExactParseSideCard

/-- THE SECOND FORM's CARD OF 'laws.FnExactEventText'. -/
def fnExactEventTextUptoCard : Claim7 := { stood := { row := fnExactEventTextUptoRow, standIns := [], harness := (true, "32cddb8cc66c9cbd92ee0287cd00536c6170520c26d3c151968fe0cbad2d532d"), looks := true }, kinds := [], alts := [], laidByText := true, laidKinds := [.data, .data, .data], laidTests := true, laidLooks := .later }
def FnExactEventTextUptoCardSaid : Prop := Claim7.holds Tryd.pinned (.plain (OpenSpec.upto fnExactEventTextSpec)) fnExactEventTextUptoCard

/-- THE SECOND FORM's CARD OF 'laws.FnExactSideText'. -/
def fnExactSideTextUptoCard : Claim7 := { stood := { row := fnExactSideTextUptoRow, standIns := [], harness := (true, "32cddb8cc66c9cbd92ee0287cd00536c6170520c26d3c151968fe0cbad2d532d"), looks := true }, kinds := [], alts := [], laidByText := true, laidKinds := [.data, .data, .data], laidTests := true, laidLooks := .later }
def FnExactSideTextUptoCardSaid : Prop := Claim7.holds Tryd.pinned (.plain (OpenSpec.upto fnExactSideTextSpec)) fnExactSideTextUptoCard

/-- THE SECOND FORM's CARD OF 'laws.FnExactSetupText'. -/
def fnExactSetupTextUptoCard : Claim7 := { stood := { row := fnExactSetupTextUptoRow, standIns := [], harness := (true, "32cddb8cc66c9cbd92ee0287cd00536c6170520c26d3c151968fe0cbad2d532d"), looks := true }, kinds := [], alts := [], laidByText := true, laidKinds := [.data, .data, .data, .data, .pinned], laidTests := true, laidLooks := .later }
def FnExactSetupTextUptoCardSaid : Prop := Claim7.holds Tryd.pinned (.plain (OpenSpec.upto fnExactSetupTextSpec)) fnExactSetupTextUptoCard

/-- THE SECOND FORM's CARD OF 'laws.FnExactParseSide'. -/
def fnExactParseSideUptoCard : Claim7 := { stood := { row := fnExactParseSideUptoRow, standIns := [], harness := (true, "32cddb8cc66c9cbd92ee0287cd00536c6170520c26d3c151968fe0cbad2d532d"), looks := true }, kinds := [], alts := [], laidByText := true, laidKinds := [.data, .data, .data, .data, .sentinel, .sentinel, .pinned], laidTests := true, laidLooks := .later }
def FnExactParseSideUptoCardSaid : Prop := Claim7.holds Tryd.pinned (.plain (OpenSpec.upto fnExactParseSideSpec)) fnExactParseSideUptoCard
end Rows
end Go.Proofs.YtblfoelddakelaaDoor

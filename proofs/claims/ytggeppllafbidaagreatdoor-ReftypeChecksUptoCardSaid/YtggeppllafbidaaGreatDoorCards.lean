/-
  DERIVED. GIVEN WITH THE SEED: THE CARDS: each row of YtggeppllafbidaaGreatDoorRows.lean that lists a variable, with what it lists TIED to the program's text (the seventh form; the later family's looks); each row that meets fmt, with fmt's text TOLD by the authors' own Lean function (tested against real Go, not proved from fmt's source: count such statements apart). THE CARD IS WHAT COUNTS. Prove the row's statement (the work); the ties are given (YtggeppllafbidaaGreatDoorTie.lean); close each card by the builder's one call (the guide's Derived/Test/ToyasCard.lean, 'card_holds'). Laid BY PROGRAM, IN A SANDBOX (cutbox-door.mjs). By AI agents, Wed Nov 11 2026. No macro, syntax, notation, axiom, sorry.
-/
import Derived.Test.YtggeppllafbidaaGreatDoorRows
import GoSem.ClaimSeven
namespace Go.Proofs.YtggeppllafbidaaGreatDoor
namespace Rows

/-- THE TIED CARD OF 'liquidchecklaw32.ReftypeSubsts'. -/
def reftypeSubstsCard : Claim7 := { stood := { row := reftypeSubstsRow, standIns := [], harness := (true, "7a67194f1a8cbbc3cc9491a2fbb6ff268ce3ecd87d78655e92e1fdec54d0d7fe"), looks := false }, kinds := [], alts := [], laidByText := true, laidKinds := [.data, .data, .data, .data], laidTests := true, laidLooks := .later }
def ReftypeSubstsCardSaid : Prop := Claim7.holds Tryz.pinned (.plain (OpenSpec.ofChange reftypeSubstsSpec)) reftypeSubstsCard

/-- THE TIED CARD OF 'liquidchecklaw32.ReftypeJoins'. -/
def reftypeJoinsCard : Claim7 := { stood := { row := reftypeJoinsRow, standIns := [], harness := (true, "7a67194f1a8cbbc3cc9491a2fbb6ff268ce3ecd87d78655e92e1fdec54d0d7fe"), looks := false }, kinds := [], alts := [], laidByText := true, laidKinds := [.data, .data, .data, .data], laidTests := true, laidLooks := .later }
def ReftypeJoinsCardSaid : Prop := Claim7.holds Tryz.pinned (.plain (OpenSpec.ofChange reftypeJoinsSpec)) reftypeJoinsCard

/-- THE TIED CARD OF 'liquidchecklaw32.ReftypeFree'. -/
def reftypeFreeCard : Claim7 := { stood := { row := reftypeFreeRow, standIns := [], harness := (true, "7a67194f1a8cbbc3cc9491a2fbb6ff268ce3ecd87d78655e92e1fdec54d0d7fe"), looks := false }, kinds := [], alts := [], laidByText := true, laidKinds := [.data, .data, .data, .data], laidTests := true, laidLooks := .later }
def ReftypeFreeCardSaid : Prop := Claim7.holds Tryz.pinned (.plain (OpenSpec.ofChange reftypeFreeSpec)) reftypeFreeCard

/-- THE TIED CARD OF 'liquidchecklaw32.ReftypeFills'. -/
def reftypeFillsCard : Claim7 := { stood := { row := reftypeFillsRow, standIns := [], harness := (true, "7a67194f1a8cbbc3cc9491a2fbb6ff268ce3ecd87d78655e92e1fdec54d0d7fe"), looks := false }, kinds := [], alts := [], laidByText := true, laidKinds := [.data, .data, .data, .data], laidTests := true, laidLooks := .later }
def ReftypeFillsCardSaid : Prop := Claim7.holds Tryz.pinned (.plain (OpenSpec.ofChange reftypeFillsSpec)) reftypeFillsCard

/-- THE TIED CARD OF 'liquidchecklaw32.ReftypeChecks'. -/
def reftypeChecksCard : Claim7 := { stood := { row := reftypeChecksRow, standIns := [], harness := (true, "7a67194f1a8cbbc3cc9491a2fbb6ff268ce3ecd87d78655e92e1fdec54d0d7fe"), looks := false }, kinds := [], alts := [], laidByText := true, laidKinds := [.data, .data, .data, .data], laidTests := true, laidLooks := .later }
def ReftypeChecksCardSaid : Prop := Claim7.holds Tryz.pinned (.plain (OpenSpec.ofChange reftypeChecksSpec)) reftypeChecksCard

/-- THE SECOND FORM's CARD OF 'liquidchecklaw32.ReftypeSubsts'. -/
def reftypeSubstsUptoCard : Claim7 := { stood := { row := reftypeSubstsUptoRow, standIns := [], harness := (true, "7a67194f1a8cbbc3cc9491a2fbb6ff268ce3ecd87d78655e92e1fdec54d0d7fe"), looks := false }, kinds := [], alts := [], laidByText := true, laidKinds := [.data, .data, .data, .data], laidTests := true, laidLooks := .later }
def ReftypeSubstsUptoCardSaid : Prop := Claim7.holds Tryz.pinned (.plain (OpenSpec.upto reftypeSubstsSpec)) reftypeSubstsUptoCard

/-- THE SECOND FORM's CARD OF 'liquidchecklaw32.ReftypeJoins'. -/
def reftypeJoinsUptoCard : Claim7 := { stood := { row := reftypeJoinsUptoRow, standIns := [], harness := (true, "7a67194f1a8cbbc3cc9491a2fbb6ff268ce3ecd87d78655e92e1fdec54d0d7fe"), looks := false }, kinds := [], alts := [], laidByText := true, laidKinds := [.data, .data, .data, .data], laidTests := true, laidLooks := .later }
def ReftypeJoinsUptoCardSaid : Prop := Claim7.holds Tryz.pinned (.plain (OpenSpec.upto reftypeJoinsSpec)) reftypeJoinsUptoCard

/-- THE SECOND FORM's CARD OF 'liquidchecklaw32.ReftypeFree'. -/
def reftypeFreeUptoCard : Claim7 := { stood := { row := reftypeFreeUptoRow, standIns := [], harness := (true, "7a67194f1a8cbbc3cc9491a2fbb6ff268ce3ecd87d78655e92e1fdec54d0d7fe"), looks := false }, kinds := [], alts := [], laidByText := true, laidKinds := [.data, .data, .data, .data], laidTests := true, laidLooks := .later }
def ReftypeFreeUptoCardSaid : Prop := Claim7.holds Tryz.pinned (.plain (OpenSpec.upto reftypeFreeSpec)) reftypeFreeUptoCard

/-- THE SECOND FORM's CARD OF 'liquidchecklaw32.ReftypeFills'. -/
def reftypeFillsUptoCard : Claim7 := { stood := { row := reftypeFillsUptoRow, standIns := [], harness := (true, "7a67194f1a8cbbc3cc9491a2fbb6ff268ce3ecd87d78655e92e1fdec54d0d7fe"), looks := false }, kinds := [], alts := [], laidByText := true, laidKinds := [.data, .data, .data, .data], laidTests := true, laidLooks := .later }
def ReftypeFillsUptoCardSaid : Prop := Claim7.holds Tryz.pinned (.plain (OpenSpec.upto reftypeFillsSpec)) reftypeFillsUptoCard

/-- THE SECOND FORM's CARD OF 'liquidchecklaw32.ReftypeChecks'. -/
def reftypeChecksUptoCard : Claim7 := { stood := { row := reftypeChecksUptoRow, standIns := [], harness := (true, "7a67194f1a8cbbc3cc9491a2fbb6ff268ce3ecd87d78655e92e1fdec54d0d7fe"), looks := false }, kinds := [], alts := [], laidByText := true, laidKinds := [.data, .data, .data, .data], laidTests := true, laidLooks := .later }
def ReftypeChecksUptoCardSaid : Prop := Claim7.holds Tryz.pinned (.plain (OpenSpec.upto reftypeChecksSpec)) reftypeChecksUptoCard
end Rows
end Go.Proofs.YtggeppllafbidaaGreatDoor

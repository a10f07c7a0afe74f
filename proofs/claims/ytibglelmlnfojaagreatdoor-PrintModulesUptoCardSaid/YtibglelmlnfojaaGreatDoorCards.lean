/-
  DERIVED. GIVEN WITH THE SEED: THE CARDS: each row of YtibglelmlnfojaaGreatDoorRows.lean that lists a variable, with what it lists TIED to the program's text (the seventh form; the later family's looks); each row that meets fmt, with fmt's text TOLD by the authors' own Lean function (tested against real Go, not proved from fmt's source: count such statements apart). THE CARD IS WHAT COUNTS. Prove the row's statement (the work); the ties are given (YtibglelmlnfojaaGreatDoorTie.lean); close each card by the builder's one call (the guide's Derived/Test/ToyasCard.lean, 'card_holds'). Laid BY PROGRAM, IN A SANDBOX (cutbox-door.mjs). By AI agents, Wed Nov 11 2026. No macro, syntax, notation, axiom, sorry.
-/
import Derived.Test.YtibglelmlnfojaaGreatDoorRows
import GoSem.ClaimSeven
namespace Go.Proofs.YtibglelmlnfojaaGreatDoor
namespace Rows

/-- THE TIED CARD OF 'liquidchecklaw22.PrintTexts'. -/
def printTextsCard : Claim7 := { stood := { row := printTextsRow, standIns := [], harness := (true, "602c3111177b935ba13e7955d497196aa584ca66099bf4d8cccbde07ace3c180"), looks := false }, kinds := [], alts := [], laidByText := true, laidKinds := [.data, .data, .data, .data, .data], laidTests := true, laidLooks := .later }
def PrintTextsCardSaid : Prop := Claim7.holds Tryz.pinned (.plain (OpenSpec.ofChange printTextsSpec)) printTextsCard

/-- THE TIED CARD OF 'liquidchecklaw22.PrintModules'. -/
def printModulesCard : Claim7 := { stood := { row := printModulesRow, standIns := [], harness := (true, "602c3111177b935ba13e7955d497196aa584ca66099bf4d8cccbde07ace3c180"), looks := false }, kinds := [], alts := [], laidByText := true, laidKinds := [.data, .data, .data, .data, .data], laidTests := true, laidLooks := .later }
def PrintModulesCardSaid : Prop := Claim7.holds Tryz.pinned (.plain (OpenSpec.ofChange printModulesSpec)) printModulesCard

/-- THE TIED CARD OF 'liquidchecklaw22.PrintApart'. -/
def printApartCard : Claim7 := { stood := { row := printApartRow, standIns := [], harness := (true, "602c3111177b935ba13e7955d497196aa584ca66099bf4d8cccbde07ace3c180"), looks := false }, kinds := [], alts := [], laidByText := true, laidKinds := [.data, .data, .data, .data, .data], laidTests := true, laidLooks := .later }
def PrintApartCardSaid : Prop := Claim7.holds Tryz.pinned (.plain (OpenSpec.ofChange printApartSpec)) printApartCard

/-- THE SECOND FORM's CARD OF 'liquidchecklaw22.PrintTexts'. -/
def printTextsUptoCard : Claim7 := { stood := { row := printTextsUptoRow, standIns := [], harness := (true, "602c3111177b935ba13e7955d497196aa584ca66099bf4d8cccbde07ace3c180"), looks := false }, kinds := [], alts := [], laidByText := true, laidKinds := [.data, .data, .data, .data, .data], laidTests := true, laidLooks := .later }
def PrintTextsUptoCardSaid : Prop := Claim7.holds Tryz.pinned (.plain (OpenSpec.upto printTextsSpec)) printTextsUptoCard

/-- THE SECOND FORM's CARD OF 'liquidchecklaw22.PrintModules'. -/
def printModulesUptoCard : Claim7 := { stood := { row := printModulesUptoRow, standIns := [], harness := (true, "602c3111177b935ba13e7955d497196aa584ca66099bf4d8cccbde07ace3c180"), looks := false }, kinds := [], alts := [], laidByText := true, laidKinds := [.data, .data, .data, .data, .data], laidTests := true, laidLooks := .later }
def PrintModulesUptoCardSaid : Prop := Claim7.holds Tryz.pinned (.plain (OpenSpec.upto printModulesSpec)) printModulesUptoCard

/-- THE SECOND FORM's CARD OF 'liquidchecklaw22.PrintApart'. -/
def printApartUptoCard : Claim7 := { stood := { row := printApartUptoRow, standIns := [], harness := (true, "602c3111177b935ba13e7955d497196aa584ca66099bf4d8cccbde07ace3c180"), looks := false }, kinds := [], alts := [], laidByText := true, laidKinds := [.data, .data, .data, .data, .data], laidTests := true, laidLooks := .later }
def PrintApartUptoCardSaid : Prop := Claim7.holds Tryz.pinned (.plain (OpenSpec.upto printApartSpec)) printApartUptoCard
end Rows
end Go.Proofs.YtibglelmlnfojaaGreatDoor

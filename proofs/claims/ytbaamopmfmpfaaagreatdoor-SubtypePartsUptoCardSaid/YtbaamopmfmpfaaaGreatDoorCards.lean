/-
  DERIVED. GIVEN WITH THE SEED: THE CARDS: each row of YtbaamopmfmpfaaaGreatDoorRows.lean that lists a variable, with what it lists TIED to the program's text (the seventh form; the later family's looks); each row that meets fmt, with fmt's text TOLD by the authors' own Lean function (tested against real Go, not proved from fmt's source: count such statements apart). THE CARD IS WHAT COUNTS. Prove the row's statement (the work); the ties are given (YtbaamopmfmpfaaaGreatDoorTie.lean); close each card by the builder's one call (the guide's Derived/Test/ToyasCard.lean, 'card_holds'). Laid BY PROGRAM, IN A SANDBOX (cutbox-door.mjs). By AI agents, Wed Nov 11 2026. No macro, syntax, notation, axiom, sorry.
-/
import Derived.Test.YtbaamopmfmpfaaaGreatDoorRows
import GoSem.ClaimSeven
namespace Go.Proofs.YtbaamopmfmpfaaaGreatDoor
namespace Rows

/-- THE TIED CARD OF 'liquidchecklaw39.SubtypeConstraints'. -/
def subtypeConstraintsCard : Claim7 := { stood := { row := subtypeConstraintsRow, standIns := [], harness := (true, "6387817b45004179860a611aaa0837a8b40dc11a6f792d87fd4cf010e4010d9e"), looks := false }, kinds := [], alts := [], laidByText := true, laidKinds := [.data, .data, .data], laidTests := true, laidLooks := .later }
def SubtypeConstraintsCardSaid : Prop := Claim7.holds Tryz.pinned (.plain (OpenSpec.ofChange subtypeConstraintsSpec)) subtypeConstraintsCard

/-- THE TIED CARD OF 'liquidchecklaw39.SubtypeReflexive'. -/
def subtypeReflexiveCard : Claim7 := { stood := { row := subtypeReflexiveRow, standIns := [], harness := (true, "6387817b45004179860a611aaa0837a8b40dc11a6f792d87fd4cf010e4010d9e"), looks := false }, kinds := [], alts := [], laidByText := true, laidKinds := [.data, .data, .data], laidTests := true, laidLooks := .later }
def SubtypeReflexiveCardSaid : Prop := Claim7.holds Tryz.pinned (.plain (OpenSpec.ofChange subtypeReflexiveSpec)) subtypeReflexiveCard

/-- THE TIED CARD OF 'liquidchecklaw39.SubtypeTags'. -/
def subtypeTagsCard : Claim7 := { stood := { row := subtypeTagsRow, standIns := [], harness := (true, "6387817b45004179860a611aaa0837a8b40dc11a6f792d87fd4cf010e4010d9e"), looks := false }, kinds := [], alts := [], laidByText := true, laidKinds := [.data, .data, .data], laidTests := true, laidLooks := .later }
def SubtypeTagsCardSaid : Prop := Claim7.holds Tryz.pinned (.plain (OpenSpec.ofChange subtypeTagsSpec)) subtypeTagsCard

/-- THE TIED CARD OF 'liquidchecklaw39.SubtypeParts'. -/
def subtypePartsCard : Claim7 := { stood := { row := subtypePartsRow, standIns := [], harness := (true, "6387817b45004179860a611aaa0837a8b40dc11a6f792d87fd4cf010e4010d9e"), looks := false }, kinds := [], alts := [], laidByText := true, laidKinds := [.data, .data, .data], laidTests := true, laidLooks := .later }
def SubtypePartsCardSaid : Prop := Claim7.holds Tryz.pinned (.plain (OpenSpec.ofChange subtypePartsSpec)) subtypePartsCard

/-- THE SECOND FORM's CARD OF 'liquidchecklaw39.SubtypeConstraints'. -/
def subtypeConstraintsUptoCard : Claim7 := { stood := { row := subtypeConstraintsUptoRow, standIns := [], harness := (true, "6387817b45004179860a611aaa0837a8b40dc11a6f792d87fd4cf010e4010d9e"), looks := false }, kinds := [], alts := [], laidByText := true, laidKinds := [.data, .data, .data], laidTests := true, laidLooks := .later }
def SubtypeConstraintsUptoCardSaid : Prop := Claim7.holds Tryz.pinned (.plain (OpenSpec.upto subtypeConstraintsSpec)) subtypeConstraintsUptoCard

/-- THE SECOND FORM's CARD OF 'liquidchecklaw39.SubtypeReflexive'. -/
def subtypeReflexiveUptoCard : Claim7 := { stood := { row := subtypeReflexiveUptoRow, standIns := [], harness := (true, "6387817b45004179860a611aaa0837a8b40dc11a6f792d87fd4cf010e4010d9e"), looks := false }, kinds := [], alts := [], laidByText := true, laidKinds := [.data, .data, .data], laidTests := true, laidLooks := .later }
def SubtypeReflexiveUptoCardSaid : Prop := Claim7.holds Tryz.pinned (.plain (OpenSpec.upto subtypeReflexiveSpec)) subtypeReflexiveUptoCard

/-- THE SECOND FORM's CARD OF 'liquidchecklaw39.SubtypeTags'. -/
def subtypeTagsUptoCard : Claim7 := { stood := { row := subtypeTagsUptoRow, standIns := [], harness := (true, "6387817b45004179860a611aaa0837a8b40dc11a6f792d87fd4cf010e4010d9e"), looks := false }, kinds := [], alts := [], laidByText := true, laidKinds := [.data, .data, .data], laidTests := true, laidLooks := .later }
def SubtypeTagsUptoCardSaid : Prop := Claim7.holds Tryz.pinned (.plain (OpenSpec.upto subtypeTagsSpec)) subtypeTagsUptoCard

/-- THE SECOND FORM's CARD OF 'liquidchecklaw39.SubtypeParts'. -/
def subtypePartsUptoCard : Claim7 := { stood := { row := subtypePartsUptoRow, standIns := [], harness := (true, "6387817b45004179860a611aaa0837a8b40dc11a6f792d87fd4cf010e4010d9e"), looks := false }, kinds := [], alts := [], laidByText := true, laidKinds := [.data, .data, .data], laidTests := true, laidLooks := .later }
def SubtypePartsUptoCardSaid : Prop := Claim7.holds Tryz.pinned (.plain (OpenSpec.upto subtypePartsSpec)) subtypePartsUptoCard
end Rows
end Go.Proofs.YtbaamopmfmpfaaaGreatDoor

/-
  DERIVED. GIVEN WITH THE SEED: THE CARDS: each row of YtgldgpdhblndkaaGreatDoorRows.lean that lists a variable, with what it lists TIED to the program's text (the seventh form; the later family's looks); each row that meets fmt, with fmt's text TOLD by the authors' own Lean function (tested against real Go, not proved from fmt's source: count such statements apart). THE CARD IS WHAT COUNTS. Prove the row's statement (the work); the ties are given (YtgldgpdhblndkaaGreatDoorTie.lean); close each card by the builder's one call (the guide's Derived/Test/ToyasCard.lean, 'card_holds'). Laid BY PROGRAM, IN A SANDBOX (cutbox-door.mjs). By AI agents, Wed Nov 11 2026. No macro, syntax, notation, axiom, sorry.
-/
import Derived.Test.YtgldgpdhblndkaaGreatDoorRows
import GoSem.ClaimSeven
namespace Go.Proofs.YtgldgpdhblndkaaGreatDoor
namespace Rows

/-- THE TIED CARD OF 'liquidchecklaw35.AbstractFresh'. -/
def abstractFreshCard : Claim7 := { stood := { row := abstractFreshRow, standIns := [], harness := (true, "f4a0480f641e4e9f5b5d11b79dbaabd4b568a4026e92a66b8b52e48ed5e7b123"), looks := false }, kinds := [], alts := [], laidByText := true, laidKinds := [.data, .data, .data], laidTests := true, laidLooks := .later }
def AbstractFreshCardSaid : Prop := Claim7.holds Tryz.pinned (.plain (OpenSpec.ofChange abstractFreshSpec)) abstractFreshCard

/-- THE TIED CARD OF 'liquidchecklaw35.AbstractInsts'. -/
def abstractInstsCard : Claim7 := { stood := { row := abstractInstsRow, standIns := [], harness := (true, "f4a0480f641e4e9f5b5d11b79dbaabd4b568a4026e92a66b8b52e48ed5e7b123"), looks := false }, kinds := [], alts := [], laidByText := true, laidKinds := [.data, .data, .data], laidTests := true, laidLooks := .later }
def AbstractInstsCardSaid : Prop := Claim7.holds Tryz.pinned (.plain (OpenSpec.ofChange abstractInstsSpec)) abstractInstsCard

/-- THE TIED CARD OF 'liquidchecklaw35.AbstractFields'. -/
def abstractFieldsCard : Claim7 := { stood := { row := abstractFieldsRow, standIns := [], harness := (true, "f4a0480f641e4e9f5b5d11b79dbaabd4b568a4026e92a66b8b52e48ed5e7b123"), looks := false }, kinds := [], alts := [], laidByText := true, laidKinds := [.data, .data, .data], laidTests := true, laidLooks := .later }
def AbstractFieldsCardSaid : Prop := Claim7.holds Tryz.pinned (.plain (OpenSpec.ofChange abstractFieldsSpec)) abstractFieldsCard

/-- THE TIED CARD OF 'liquidchecklaw35.AbstractDrops'. -/
def abstractDropsCard : Claim7 := { stood := { row := abstractDropsRow, standIns := [], harness := (true, "f4a0480f641e4e9f5b5d11b79dbaabd4b568a4026e92a66b8b52e48ed5e7b123"), looks := false }, kinds := [], alts := [], laidByText := true, laidKinds := [.data, .data, .data], laidTests := true, laidLooks := .later }
def AbstractDropsCardSaid : Prop := Claim7.holds Tryz.pinned (.plain (OpenSpec.ofChange abstractDropsSpec)) abstractDropsCard

/-- THE TIED CARD OF 'liquidchecklaw35.AbstractFills'. -/
def abstractFillsCard : Claim7 := { stood := { row := abstractFillsRow, standIns := [], harness := (true, "f4a0480f641e4e9f5b5d11b79dbaabd4b568a4026e92a66b8b52e48ed5e7b123"), looks := false }, kinds := [], alts := [], laidByText := true, laidKinds := [.data, .data, .data], laidTests := true, laidLooks := .later }
def AbstractFillsCardSaid : Prop := Claim7.holds Tryz.pinned (.plain (OpenSpec.ofChange abstractFillsSpec)) abstractFillsCard

/-- THE SECOND FORM's CARD OF 'liquidchecklaw35.AbstractFresh'. -/
def abstractFreshUptoCard : Claim7 := { stood := { row := abstractFreshUptoRow, standIns := [], harness := (true, "f4a0480f641e4e9f5b5d11b79dbaabd4b568a4026e92a66b8b52e48ed5e7b123"), looks := false }, kinds := [], alts := [], laidByText := true, laidKinds := [.data, .data, .data], laidTests := true, laidLooks := .later }
def AbstractFreshUptoCardSaid : Prop := Claim7.holds Tryz.pinned (.plain (OpenSpec.upto abstractFreshSpec)) abstractFreshUptoCard

/-- THE SECOND FORM's CARD OF 'liquidchecklaw35.AbstractInsts'. -/
def abstractInstsUptoCard : Claim7 := { stood := { row := abstractInstsUptoRow, standIns := [], harness := (true, "f4a0480f641e4e9f5b5d11b79dbaabd4b568a4026e92a66b8b52e48ed5e7b123"), looks := false }, kinds := [], alts := [], laidByText := true, laidKinds := [.data, .data, .data], laidTests := true, laidLooks := .later }
def AbstractInstsUptoCardSaid : Prop := Claim7.holds Tryz.pinned (.plain (OpenSpec.upto abstractInstsSpec)) abstractInstsUptoCard

/-- THE SECOND FORM's CARD OF 'liquidchecklaw35.AbstractFields'. -/
def abstractFieldsUptoCard : Claim7 := { stood := { row := abstractFieldsUptoRow, standIns := [], harness := (true, "f4a0480f641e4e9f5b5d11b79dbaabd4b568a4026e92a66b8b52e48ed5e7b123"), looks := false }, kinds := [], alts := [], laidByText := true, laidKinds := [.data, .data, .data], laidTests := true, laidLooks := .later }
def AbstractFieldsUptoCardSaid : Prop := Claim7.holds Tryz.pinned (.plain (OpenSpec.upto abstractFieldsSpec)) abstractFieldsUptoCard

/-- THE SECOND FORM's CARD OF 'liquidchecklaw35.AbstractDrops'. -/
def abstractDropsUptoCard : Claim7 := { stood := { row := abstractDropsUptoRow, standIns := [], harness := (true, "f4a0480f641e4e9f5b5d11b79dbaabd4b568a4026e92a66b8b52e48ed5e7b123"), looks := false }, kinds := [], alts := [], laidByText := true, laidKinds := [.data, .data, .data], laidTests := true, laidLooks := .later }
def AbstractDropsUptoCardSaid : Prop := Claim7.holds Tryz.pinned (.plain (OpenSpec.upto abstractDropsSpec)) abstractDropsUptoCard

/-- THE SECOND FORM's CARD OF 'liquidchecklaw35.AbstractFills'. -/
def abstractFillsUptoCard : Claim7 := { stood := { row := abstractFillsUptoRow, standIns := [], harness := (true, "f4a0480f641e4e9f5b5d11b79dbaabd4b568a4026e92a66b8b52e48ed5e7b123"), looks := false }, kinds := [], alts := [], laidByText := true, laidKinds := [.data, .data, .data], laidTests := true, laidLooks := .later }
def AbstractFillsUptoCardSaid : Prop := Claim7.holds Tryz.pinned (.plain (OpenSpec.upto abstractFillsSpec)) abstractFillsUptoCard
end Rows
end Go.Proofs.YtgldgpdhblndkaaGreatDoor

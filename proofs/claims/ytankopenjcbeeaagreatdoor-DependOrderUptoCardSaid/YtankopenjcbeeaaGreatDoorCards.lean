/-
  DERIVED. GIVEN WITH THE SEED: THE CARDS: each row of YtankopenjcbeeaaGreatDoorRows.lean that lists a variable, with what it lists TIED to the program's text (the seventh form; the later family's looks); each row that meets fmt, with fmt's text TOLD by the authors' own Lean function (tested against real Go, not proved from fmt's source: count such statements apart). THE CARD IS WHAT COUNTS. Prove the row's statement (the work); the ties are given (YtankopenjcbeeaaGreatDoorTie.lean); close each card by the builder's one call (the guide's Derived/Test/ToyasCard.lean, 'card_holds'). Laid BY PROGRAM, IN A SANDBOX (cutbox-door.mjs). By AI agents, Wed Nov 11 2026. No macro, syntax, notation, axiom, sorry.
-/
import Derived.Test.YtankopenjcbeeaaGreatDoorRows
import GoSem.ClaimSeven
namespace Go.Proofs.YtankopenjcbeeaaGreatDoor
namespace Rows

/-- THE TIED CARD OF 'liquidchecklaw54.DependNames'. -/
def dependNamesCard : Claim7 := { stood := { row := dependNamesRow, standIns := [], harness := (true, "fd3c5effc856d1137f93b7e264629efed6ef3a9f6e1c6241576c010b3a254d58"), looks := false }, kinds := [], alts := [], laidByText := true, laidKinds := [.data, .data, .data, .data, .data], laidTests := true, laidLooks := .later }
def DependNamesCardSaid : Prop := Claim7.holds Tryz.pinned (.plain (OpenSpec.ofChange dependNamesSpec)) dependNamesCard

/-- THE TIED CARD OF 'liquidchecklaw54.DependSums'. -/
def dependSumsCard : Claim7 := { stood := { row := dependSumsRow, standIns := [], harness := (true, "fd3c5effc856d1137f93b7e264629efed6ef3a9f6e1c6241576c010b3a254d58"), looks := false }, kinds := [], alts := [], laidByText := true, laidKinds := [.data, .data, .data, .data, .data], laidTests := true, laidLooks := .later }
def DependSumsCardSaid : Prop := Claim7.holds Tryz.pinned (.plain (OpenSpec.ofChange dependSumsSpec)) dependSumsCard

/-- THE TIED CARD OF 'liquidchecklaw54.DependChanges'. -/
def dependChangesCard : Claim7 := { stood := { row := dependChangesRow, standIns := [], harness := (true, "fd3c5effc856d1137f93b7e264629efed6ef3a9f6e1c6241576c010b3a254d58"), looks := false }, kinds := [], alts := [], laidByText := true, laidKinds := [.data, .data, .data, .data, .data], laidTests := true, laidLooks := .later }
def DependChangesCardSaid : Prop := Claim7.holds Tryz.pinned (.plain (OpenSpec.ofChange dependChangesSpec)) dependChangesCard

/-- THE TIED CARD OF 'liquidchecklaw54.DependOrder'. -/
def dependOrderCard : Claim7 := { stood := { row := dependOrderRow, standIns := [], harness := (true, "fd3c5effc856d1137f93b7e264629efed6ef3a9f6e1c6241576c010b3a254d58"), looks := false }, kinds := [], alts := [], laidByText := true, laidKinds := [.data, .data, .data, .data, .data], laidTests := true, laidLooks := .later }
def DependOrderCardSaid : Prop := Claim7.holds Tryz.pinned (.plain (OpenSpec.ofChange dependOrderSpec)) dependOrderCard

/-- THE TIED CARD OF 'liquidchecklaw54.DependBody'. -/
def dependBodyCard : Claim7 := { stood := { row := dependBodyRow, standIns := [], harness := (true, "fd3c5effc856d1137f93b7e264629efed6ef3a9f6e1c6241576c010b3a254d58"), looks := false }, kinds := [], alts := [], laidByText := true, laidKinds := [.data, .data, .data, .data, .data], laidTests := true, laidLooks := .later }
def DependBodyCardSaid : Prop := Claim7.holds Tryz.pinned (.plain (OpenSpec.ofChange dependBodySpec)) dependBodyCard

/-- THE SECOND FORM's CARD OF 'liquidchecklaw54.DependNames'. -/
def dependNamesUptoCard : Claim7 := { stood := { row := dependNamesUptoRow, standIns := [], harness := (true, "fd3c5effc856d1137f93b7e264629efed6ef3a9f6e1c6241576c010b3a254d58"), looks := false }, kinds := [], alts := [], laidByText := true, laidKinds := [.data, .data, .data, .data, .data], laidTests := true, laidLooks := .later }
def DependNamesUptoCardSaid : Prop := Claim7.holds Tryz.pinned (.plain (OpenSpec.upto dependNamesSpec)) dependNamesUptoCard

/-- THE SECOND FORM's CARD OF 'liquidchecklaw54.DependSums'. -/
def dependSumsUptoCard : Claim7 := { stood := { row := dependSumsUptoRow, standIns := [], harness := (true, "fd3c5effc856d1137f93b7e264629efed6ef3a9f6e1c6241576c010b3a254d58"), looks := false }, kinds := [], alts := [], laidByText := true, laidKinds := [.data, .data, .data, .data, .data], laidTests := true, laidLooks := .later }
def DependSumsUptoCardSaid : Prop := Claim7.holds Tryz.pinned (.plain (OpenSpec.upto dependSumsSpec)) dependSumsUptoCard

/-- THE SECOND FORM's CARD OF 'liquidchecklaw54.DependChanges'. -/
def dependChangesUptoCard : Claim7 := { stood := { row := dependChangesUptoRow, standIns := [], harness := (true, "fd3c5effc856d1137f93b7e264629efed6ef3a9f6e1c6241576c010b3a254d58"), looks := false }, kinds := [], alts := [], laidByText := true, laidKinds := [.data, .data, .data, .data, .data], laidTests := true, laidLooks := .later }
def DependChangesUptoCardSaid : Prop := Claim7.holds Tryz.pinned (.plain (OpenSpec.upto dependChangesSpec)) dependChangesUptoCard

/-- THE SECOND FORM's CARD OF 'liquidchecklaw54.DependOrder'. -/
def dependOrderUptoCard : Claim7 := { stood := { row := dependOrderUptoRow, standIns := [], harness := (true, "fd3c5effc856d1137f93b7e264629efed6ef3a9f6e1c6241576c010b3a254d58"), looks := false }, kinds := [], alts := [], laidByText := true, laidKinds := [.data, .data, .data, .data, .data], laidTests := true, laidLooks := .later }
def DependOrderUptoCardSaid : Prop := Claim7.holds Tryz.pinned (.plain (OpenSpec.upto dependOrderSpec)) dependOrderUptoCard

/-- THE SECOND FORM's CARD OF 'liquidchecklaw54.DependBody'. -/
def dependBodyUptoCard : Claim7 := { stood := { row := dependBodyUptoRow, standIns := [], harness := (true, "fd3c5effc856d1137f93b7e264629efed6ef3a9f6e1c6241576c010b3a254d58"), looks := false }, kinds := [], alts := [], laidByText := true, laidKinds := [.data, .data, .data, .data, .data], laidTests := true, laidLooks := .later }
def DependBodyUptoCardSaid : Prop := Claim7.holds Tryz.pinned (.plain (OpenSpec.upto dependBodySpec)) dependBodyUptoCard
end Rows
end Go.Proofs.YtankopenjcbeeaaGreatDoor

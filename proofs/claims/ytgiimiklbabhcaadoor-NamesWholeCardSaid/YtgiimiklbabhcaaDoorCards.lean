/-
  DERIVED. GIVEN WITH THE SEED: THE CARDS: each row of YtgiimiklbabhcaaDoorRows.lean that lists a variable, with what it lists TIED to the program's text (the seventh form; the later family's looks); each row that meets fmt, with fmt's text TOLD by the authors' own Lean function (tested against real Go, not proved from fmt's source: count such statements apart). THE CARD IS WHAT COUNTS. Prove the row's statement (the work); the ties are given (YtgiimiklbabhcaaDoorTie.lean); close each card by the builder's one call (the guide's Derived/Test/ToyasCard.lean, 'card_holds'). Laid BY PROGRAM, IN A SANDBOX (cutbox-door.mjs). By AI agents, Wed Nov 11 2026. No macro, syntax, notation, axiom, sorry.
-/
import Derived.Test.YtgiimiklbabhcaaDoorRows
import GoSem.ClaimSeven
namespace Go.Proofs.YtgiimiklbabhcaaDoor
namespace Rows

/-- THE TIED CARD OF 'liquidchecklaw04.NamesKinds'. -/
def namesKindsCard : Claim7 := { stood := { row := namesKindsRow, standIns := [], harness := (true, "38dd6725c8a5db511ab8f27f6845bd60bec3d0e248a251c5026b2581b637abf7"), looks := false }, kinds := [], alts := [], laidByText := true, laidKinds := [.data, .data, .data, .data], laidTests := true, laidLooks := .later }
def NamesKindsCardSaid : Prop := Claim7.holds Tryd.pinned (.plain (OpenSpec.ofChange namesKindsSpec)) namesKindsCard

/-- THE TIED CARD OF 'liquidchecklaw04.NamesFresh'. -/
def namesFreshCard : Claim7 := { stood := { row := namesFreshRow, standIns := [], harness := (true, "38dd6725c8a5db511ab8f27f6845bd60bec3d0e248a251c5026b2581b637abf7"), looks := false }, kinds := [], alts := [], laidByText := true, laidKinds := [.data, .data, .data, .data], laidTests := true, laidLooks := .later }
def NamesFreshCardSaid : Prop := Claim7.holds Tryd.pinned (.plain (OpenSpec.ofChange namesFreshSpec)) namesFreshCard

/-- THE TIED CARD OF 'liquidchecklaw04.NamesUnion'. -/
def namesUnionCard : Claim7 := { stood := { row := namesUnionRow, standIns := [], harness := (true, "38dd6725c8a5db511ab8f27f6845bd60bec3d0e248a251c5026b2581b637abf7"), looks := false }, kinds := [], alts := [], laidByText := true, laidKinds := [.data, .data, .data, .data], laidTests := true, laidLooks := .later }
def NamesUnionCardSaid : Prop := Claim7.holds Tryd.pinned (.plain (OpenSpec.ofChange namesUnionSpec)) namesUnionCard

/-- THE TIED CARD OF 'liquidchecklaw04.NamesApart'. -/
def namesApartCard : Claim7 := { stood := { row := namesApartRow, standIns := [], harness := (true, "38dd6725c8a5db511ab8f27f6845bd60bec3d0e248a251c5026b2581b637abf7"), looks := false }, kinds := [], alts := [], laidByText := true, laidKinds := [.data, .data, .data, .data], laidTests := true, laidLooks := .later }
def NamesApartCardSaid : Prop := Claim7.holds Tryd.pinned (.plain (OpenSpec.ofChange namesApartSpec)) namesApartCard

/-- THE TIED CARD OF 'liquidchecklaw04.NamesLists'. -/
def namesListsCard : Claim7 := { stood := { row := namesListsRow, standIns := [], harness := (true, "38dd6725c8a5db511ab8f27f6845bd60bec3d0e248a251c5026b2581b637abf7"), looks := false }, kinds := [], alts := [], laidByText := true, laidKinds := [.data, .data, .data, .data], laidTests := true, laidLooks := .later }
def NamesListsCardSaid : Prop := Claim7.holds Tryd.pinned (.plain (OpenSpec.ofChange namesListsSpec)) namesListsCard

/-- THE TIED CARD OF 'liquidchecklaw04.NamesWhole'. -/
def namesWholeCard : Claim7 := { stood := { row := namesWholeRow, standIns := [], harness := (true, "38dd6725c8a5db511ab8f27f6845bd60bec3d0e248a251c5026b2581b637abf7"), looks := false }, kinds := [], alts := [], laidByText := true, laidKinds := [.data, .data, .data, .data], laidTests := true, laidLooks := .later }
def NamesWholeCardSaid : Prop := Claim7.holds Tryd.pinned (.plain (OpenSpec.ofChange namesWholeSpec)) namesWholeCard

/-- THE SECOND FORM's CARD OF 'liquidchecklaw04.NamesKinds'. -/
def namesKindsUptoCard : Claim7 := { stood := { row := namesKindsUptoRow, standIns := [], harness := (true, "38dd6725c8a5db511ab8f27f6845bd60bec3d0e248a251c5026b2581b637abf7"), looks := false }, kinds := [], alts := [], laidByText := true, laidKinds := [.data, .data, .data, .data], laidTests := true, laidLooks := .later }
def NamesKindsUptoCardSaid : Prop := Claim7.holds Tryd.pinned (.plain (OpenSpec.upto namesKindsSpec)) namesKindsUptoCard

/-- THE SECOND FORM's CARD OF 'liquidchecklaw04.NamesFresh'. -/
def namesFreshUptoCard : Claim7 := { stood := { row := namesFreshUptoRow, standIns := [], harness := (true, "38dd6725c8a5db511ab8f27f6845bd60bec3d0e248a251c5026b2581b637abf7"), looks := false }, kinds := [], alts := [], laidByText := true, laidKinds := [.data, .data, .data, .data], laidTests := true, laidLooks := .later }
def NamesFreshUptoCardSaid : Prop := Claim7.holds Tryd.pinned (.plain (OpenSpec.upto namesFreshSpec)) namesFreshUptoCard

/-- THE SECOND FORM's CARD OF 'liquidchecklaw04.NamesUnion'. -/
def namesUnionUptoCard : Claim7 := { stood := { row := namesUnionUptoRow, standIns := [], harness := (true, "38dd6725c8a5db511ab8f27f6845bd60bec3d0e248a251c5026b2581b637abf7"), looks := false }, kinds := [], alts := [], laidByText := true, laidKinds := [.data, .data, .data, .data], laidTests := true, laidLooks := .later }
def NamesUnionUptoCardSaid : Prop := Claim7.holds Tryd.pinned (.plain (OpenSpec.upto namesUnionSpec)) namesUnionUptoCard

/-- THE SECOND FORM's CARD OF 'liquidchecklaw04.NamesApart'. -/
def namesApartUptoCard : Claim7 := { stood := { row := namesApartUptoRow, standIns := [], harness := (true, "38dd6725c8a5db511ab8f27f6845bd60bec3d0e248a251c5026b2581b637abf7"), looks := false }, kinds := [], alts := [], laidByText := true, laidKinds := [.data, .data, .data, .data], laidTests := true, laidLooks := .later }
def NamesApartUptoCardSaid : Prop := Claim7.holds Tryd.pinned (.plain (OpenSpec.upto namesApartSpec)) namesApartUptoCard

/-- THE SECOND FORM's CARD OF 'liquidchecklaw04.NamesLists'. -/
def namesListsUptoCard : Claim7 := { stood := { row := namesListsUptoRow, standIns := [], harness := (true, "38dd6725c8a5db511ab8f27f6845bd60bec3d0e248a251c5026b2581b637abf7"), looks := false }, kinds := [], alts := [], laidByText := true, laidKinds := [.data, .data, .data, .data], laidTests := true, laidLooks := .later }
def NamesListsUptoCardSaid : Prop := Claim7.holds Tryd.pinned (.plain (OpenSpec.upto namesListsSpec)) namesListsUptoCard

/-- THE SECOND FORM's CARD OF 'liquidchecklaw04.NamesWhole'. -/
def namesWholeUptoCard : Claim7 := { stood := { row := namesWholeUptoRow, standIns := [], harness := (true, "38dd6725c8a5db511ab8f27f6845bd60bec3d0e248a251c5026b2581b637abf7"), looks := false }, kinds := [], alts := [], laidByText := true, laidKinds := [.data, .data, .data, .data], laidTests := true, laidLooks := .later }
def NamesWholeUptoCardSaid : Prop := Claim7.holds Tryd.pinned (.plain (OpenSpec.upto namesWholeSpec)) namesWholeUptoCard
end Rows
end Go.Proofs.YtgiimiklbabhcaaDoor

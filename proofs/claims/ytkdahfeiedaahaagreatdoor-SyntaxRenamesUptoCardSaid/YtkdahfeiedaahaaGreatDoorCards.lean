/-
  DERIVED. GIVEN WITH THE SEED: THE CARDS: each row of YtkdahfeiedaahaaGreatDoorRows.lean that lists a variable, with what it lists TIED to the program's text (the seventh form; the later family's looks); each row that meets fmt, with fmt's text TOLD by the authors' own Lean function (tested against real Go, not proved from fmt's source: count such statements apart). THE CARD IS WHAT COUNTS. Prove the row's statement (the work); the ties are given (YtkdahfeiedaahaaGreatDoorTie.lean); close each card by the builder's one call (the guide's Derived/Test/ToyasCard.lean, 'card_holds'). Laid BY PROGRAM, IN A SANDBOX (cutbox-door.mjs). By AI agents, Wed Nov 11 2026. No macro, syntax, notation, axiom, sorry.
-/
import Derived.Test.YtkdahfeiedaahaaGreatDoorRows
import GoSem.ClaimSeven
namespace Go.Proofs.YtkdahfeiedaahaaGreatDoor
namespace Rows

/-- THE TIED CARD OF 'liquidchecklaw20.SyntaxRenames'. -/
def syntaxRenamesCard : Claim7 := { stood := { row := syntaxRenamesRow, standIns := [], harness := (true, "e06c58ba1501829c3db870ad04d4a5128e03a16698d8f122087b1dc9ef89032a"), looks := false }, kinds := [], alts := [], laidByText := true, laidKinds := [.data, .data, .data, .data], laidTests := true, laidLooks := .later }
def SyntaxRenamesCardSaid : Prop := Claim7.holds Tryz.pinned (.plain (OpenSpec.ofChange syntaxRenamesSpec)) syntaxRenamesCard

/-- THE TIED CARD OF 'liquidchecklaw20.SyntaxForms'. -/
def syntaxFormsCard : Claim7 := { stood := { row := syntaxFormsRow, standIns := [], harness := (true, "e06c58ba1501829c3db870ad04d4a5128e03a16698d8f122087b1dc9ef89032a"), looks := false }, kinds := [], alts := [], laidByText := true, laidKinds := [.data, .data, .data, .data], laidTests := true, laidLooks := .later }
def SyntaxFormsCardSaid : Prop := Claim7.holds Tryz.pinned (.plain (OpenSpec.ofChange syntaxFormsSpec)) syntaxFormsCard

/-- THE TIED CARD OF 'liquidchecklaw20.SyntaxRenamed'. -/
def syntaxRenamedCard : Claim7 := { stood := { row := syntaxRenamedRow, standIns := [], harness := (true, "e06c58ba1501829c3db870ad04d4a5128e03a16698d8f122087b1dc9ef89032a"), looks := false }, kinds := [], alts := [], laidByText := true, laidKinds := [.data, .data, .data, .data], laidTests := true, laidLooks := .later }
def SyntaxRenamedCardSaid : Prop := Claim7.holds Tryz.pinned (.plain (OpenSpec.ofChange syntaxRenamedSpec)) syntaxRenamedCard

/-- THE TIED CARD OF 'liquidchecklaw20.SyntaxNames'. -/
def syntaxNamesCard : Claim7 := { stood := { row := syntaxNamesRow, standIns := [], harness := (true, "e06c58ba1501829c3db870ad04d4a5128e03a16698d8f122087b1dc9ef89032a"), looks := false }, kinds := [], alts := [], laidByText := true, laidKinds := [.data, .data, .data, .data], laidTests := true, laidLooks := .later }
def SyntaxNamesCardSaid : Prop := Claim7.holds Tryz.pinned (.plain (OpenSpec.ofChange syntaxNamesSpec)) syntaxNamesCard

/-- THE TIED CARD OF 'liquidchecklaw20.SyntaxFinds'. -/
def syntaxFindsCard : Claim7 := { stood := { row := syntaxFindsRow, standIns := [], harness := (true, "e06c58ba1501829c3db870ad04d4a5128e03a16698d8f122087b1dc9ef89032a"), looks := false }, kinds := [], alts := [], laidByText := true, laidKinds := [.data, .data, .data, .data], laidTests := true, laidLooks := .later }
def SyntaxFindsCardSaid : Prop := Claim7.holds Tryz.pinned (.plain (OpenSpec.ofChange syntaxFindsSpec)) syntaxFindsCard

/-- THE TIED CARD OF 'liquidchecklaw20.SyntaxReaches'. -/
def syntaxReachesCard : Claim7 := { stood := { row := syntaxReachesRow, standIns := [], harness := (true, "e06c58ba1501829c3db870ad04d4a5128e03a16698d8f122087b1dc9ef89032a"), looks := false }, kinds := [], alts := [], laidByText := true, laidKinds := [.data, .data, .data, .data], laidTests := true, laidLooks := .later }
def SyntaxReachesCardSaid : Prop := Claim7.holds Tryz.pinned (.plain (OpenSpec.ofChange syntaxReachesSpec)) syntaxReachesCard

/-- THE TIED CARD OF 'liquidchecklaw20.SyntaxModules'. -/
def syntaxModulesCard : Claim7 := { stood := { row := syntaxModulesRow, standIns := [], harness := (true, "e06c58ba1501829c3db870ad04d4a5128e03a16698d8f122087b1dc9ef89032a"), looks := false }, kinds := [], alts := [], laidByText := true, laidKinds := [.data, .data, .data, .data], laidTests := true, laidLooks := .later }
def SyntaxModulesCardSaid : Prop := Claim7.holds Tryz.pinned (.plain (OpenSpec.ofChange syntaxModulesSpec)) syntaxModulesCard

/-- THE SECOND FORM's CARD OF 'liquidchecklaw20.SyntaxRenames'. -/
def syntaxRenamesUptoCard : Claim7 := { stood := { row := syntaxRenamesUptoRow, standIns := [], harness := (true, "e06c58ba1501829c3db870ad04d4a5128e03a16698d8f122087b1dc9ef89032a"), looks := false }, kinds := [], alts := [], laidByText := true, laidKinds := [.data, .data, .data, .data], laidTests := true, laidLooks := .later }
def SyntaxRenamesUptoCardSaid : Prop := Claim7.holds Tryz.pinned (.plain (OpenSpec.upto syntaxRenamesSpec)) syntaxRenamesUptoCard

/-- THE SECOND FORM's CARD OF 'liquidchecklaw20.SyntaxForms'. -/
def syntaxFormsUptoCard : Claim7 := { stood := { row := syntaxFormsUptoRow, standIns := [], harness := (true, "e06c58ba1501829c3db870ad04d4a5128e03a16698d8f122087b1dc9ef89032a"), looks := false }, kinds := [], alts := [], laidByText := true, laidKinds := [.data, .data, .data, .data], laidTests := true, laidLooks := .later }
def SyntaxFormsUptoCardSaid : Prop := Claim7.holds Tryz.pinned (.plain (OpenSpec.upto syntaxFormsSpec)) syntaxFormsUptoCard

/-- THE SECOND FORM's CARD OF 'liquidchecklaw20.SyntaxRenamed'. -/
def syntaxRenamedUptoCard : Claim7 := { stood := { row := syntaxRenamedUptoRow, standIns := [], harness := (true, "e06c58ba1501829c3db870ad04d4a5128e03a16698d8f122087b1dc9ef89032a"), looks := false }, kinds := [], alts := [], laidByText := true, laidKinds := [.data, .data, .data, .data], laidTests := true, laidLooks := .later }
def SyntaxRenamedUptoCardSaid : Prop := Claim7.holds Tryz.pinned (.plain (OpenSpec.upto syntaxRenamedSpec)) syntaxRenamedUptoCard

/-- THE SECOND FORM's CARD OF 'liquidchecklaw20.SyntaxNames'. -/
def syntaxNamesUptoCard : Claim7 := { stood := { row := syntaxNamesUptoRow, standIns := [], harness := (true, "e06c58ba1501829c3db870ad04d4a5128e03a16698d8f122087b1dc9ef89032a"), looks := false }, kinds := [], alts := [], laidByText := true, laidKinds := [.data, .data, .data, .data], laidTests := true, laidLooks := .later }
def SyntaxNamesUptoCardSaid : Prop := Claim7.holds Tryz.pinned (.plain (OpenSpec.upto syntaxNamesSpec)) syntaxNamesUptoCard

/-- THE SECOND FORM's CARD OF 'liquidchecklaw20.SyntaxFinds'. -/
def syntaxFindsUptoCard : Claim7 := { stood := { row := syntaxFindsUptoRow, standIns := [], harness := (true, "e06c58ba1501829c3db870ad04d4a5128e03a16698d8f122087b1dc9ef89032a"), looks := false }, kinds := [], alts := [], laidByText := true, laidKinds := [.data, .data, .data, .data], laidTests := true, laidLooks := .later }
def SyntaxFindsUptoCardSaid : Prop := Claim7.holds Tryz.pinned (.plain (OpenSpec.upto syntaxFindsSpec)) syntaxFindsUptoCard

/-- THE SECOND FORM's CARD OF 'liquidchecklaw20.SyntaxReaches'. -/
def syntaxReachesUptoCard : Claim7 := { stood := { row := syntaxReachesUptoRow, standIns := [], harness := (true, "e06c58ba1501829c3db870ad04d4a5128e03a16698d8f122087b1dc9ef89032a"), looks := false }, kinds := [], alts := [], laidByText := true, laidKinds := [.data, .data, .data, .data], laidTests := true, laidLooks := .later }
def SyntaxReachesUptoCardSaid : Prop := Claim7.holds Tryz.pinned (.plain (OpenSpec.upto syntaxReachesSpec)) syntaxReachesUptoCard

/-- THE SECOND FORM's CARD OF 'liquidchecklaw20.SyntaxModules'. -/
def syntaxModulesUptoCard : Claim7 := { stood := { row := syntaxModulesUptoRow, standIns := [], harness := (true, "e06c58ba1501829c3db870ad04d4a5128e03a16698d8f122087b1dc9ef89032a"), looks := false }, kinds := [], alts := [], laidByText := true, laidKinds := [.data, .data, .data, .data], laidTests := true, laidLooks := .later }
def SyntaxModulesUptoCardSaid : Prop := Claim7.holds Tryz.pinned (.plain (OpenSpec.upto syntaxModulesSpec)) syntaxModulesUptoCard
end Rows
end Go.Proofs.YtkdahfeiedaahaaGreatDoor

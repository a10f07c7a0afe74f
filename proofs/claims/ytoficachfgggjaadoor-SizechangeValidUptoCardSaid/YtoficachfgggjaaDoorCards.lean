/-
  DERIVED. GIVEN WITH THE SEED: THE CARDS: each row of YtoficachfgggjaaDoorRows.lean that lists a variable, with what it lists TIED to the program's text (the seventh form; the later family's looks); each row that meets fmt, with fmt's text TOLD by the authors' own Lean function (tested against real Go, not proved from fmt's source: count such statements apart). THE CARD IS WHAT COUNTS. Prove the row's statement (the work); the ties are given (YtoficachfgggjaaDoorTie.lean); close each card by the builder's one call (the guide's Derived/Test/ToyasCard.lean, 'card_holds'). Laid BY PROGRAM, IN A SANDBOX (cutbox-door.mjs). By AI agents, Wed Nov 11 2026. No macro, syntax, notation, axiom, sorry.
-/
import Derived.Test.YtoficachfgggjaaDoorRows
import GoSem.ClaimSeven
namespace Go.Proofs.YtoficachfgggjaaDoor
namespace Rows

/-- THE TIED CARD OF 'liquidchecklaw49.SizechangeValid'. -/
def sizechangeValidCard : Claim7 := { stood := { row := sizechangeValidRow, standIns := [], harness := (true, "107040cc138538a8845408b9b9b46a0c08b67c87126b2612acbd0119ac1f4d94"), looks := false }, kinds := [], alts := [], laidByText := true, laidKinds := [.data, .data, .data, .data], laidTests := true, laidLooks := .later }
def SizechangeValidCardSaid : Prop := Claim7.holds Tryd.pinned (.plain (OpenSpec.ofChange sizechangeValidSpec)) sizechangeValidCard

/-- THE TIED CARD OF 'liquidchecklaw49.SizechangeComposes'. -/
def sizechangeComposesCard : Claim7 := { stood := { row := sizechangeComposesRow, standIns := [], harness := (true, "107040cc138538a8845408b9b9b46a0c08b67c87126b2612acbd0119ac1f4d94"), looks := false }, kinds := [], alts := [], laidByText := true, laidKinds := [.data, .data, .data, .data], laidTests := true, laidLooks := .later }
def SizechangeComposesCardSaid : Prop := Claim7.holds Tryd.pinned (.plain (OpenSpec.ofChange sizechangeComposesSpec)) sizechangeComposesCard

/-- THE TIED CARD OF 'liquidchecklaw49.SizechangeCloses'. -/
def sizechangeClosesCard : Claim7 := { stood := { row := sizechangeClosesRow, standIns := [], harness := (true, "107040cc138538a8845408b9b9b46a0c08b67c87126b2612acbd0119ac1f4d94"), looks := false }, kinds := [], alts := [], laidByText := true, laidKinds := [.data, .data, .data, .data], laidTests := true, laidLooks := .later }
def SizechangeClosesCardSaid : Prop := Claim7.holds Tryd.pinned (.plain (OpenSpec.ofChange sizechangeClosesSpec)) sizechangeClosesCard

/-- THE TIED CARD OF 'liquidchecklaw49.SizechangeAssociates'. -/
def sizechangeAssociatesCard : Claim7 := { stood := { row := sizechangeAssociatesRow, standIns := [], harness := (true, "107040cc138538a8845408b9b9b46a0c08b67c87126b2612acbd0119ac1f4d94"), looks := false }, kinds := [], alts := [], laidByText := true, laidKinds := [.data, .data, .data, .data], laidTests := true, laidLooks := .later }
def SizechangeAssociatesCardSaid : Prop := Claim7.holds Tryd.pinned (.plain (OpenSpec.ofChange sizechangeAssociatesSpec)) sizechangeAssociatesCard

/-- THE TIED CARD OF 'liquidchecklaw49.SizechangeClosed'. -/
def sizechangeClosedCard : Claim7 := { stood := { row := sizechangeClosedRow, standIns := [], harness := (true, "107040cc138538a8845408b9b9b46a0c08b67c87126b2612acbd0119ac1f4d94"), looks := false }, kinds := [], alts := [], laidByText := true, laidKinds := [.data, .data, .data, .data], laidTests := true, laidLooks := .later }
def SizechangeClosedCardSaid : Prop := Claim7.holds Tryd.pinned (.plain (OpenSpec.ofChange sizechangeClosedSpec)) sizechangeClosedCard

/-- THE TIED CARD OF 'liquidchecklaw49.SizechangeFalls'. -/
def sizechangeFallsCard : Claim7 := { stood := { row := sizechangeFallsRow, standIns := [], harness := (true, "107040cc138538a8845408b9b9b46a0c08b67c87126b2612acbd0119ac1f4d94"), looks := false }, kinds := [], alts := [], laidByText := true, laidKinds := [.data, .data, .data, .data], laidTests := true, laidLooks := .later }
def SizechangeFallsCardSaid : Prop := Claim7.holds Tryd.pinned (.plain (OpenSpec.ofChange sizechangeFallsSpec)) sizechangeFallsCard

/-- THE SECOND FORM's CARD OF 'liquidchecklaw49.SizechangeValid'. -/
def sizechangeValidUptoCard : Claim7 := { stood := { row := sizechangeValidUptoRow, standIns := [], harness := (true, "107040cc138538a8845408b9b9b46a0c08b67c87126b2612acbd0119ac1f4d94"), looks := false }, kinds := [], alts := [], laidByText := true, laidKinds := [.data, .data, .data, .data], laidTests := true, laidLooks := .later }
def SizechangeValidUptoCardSaid : Prop := Claim7.holds Tryd.pinned (.plain (OpenSpec.upto sizechangeValidSpec)) sizechangeValidUptoCard

/-- THE SECOND FORM's CARD OF 'liquidchecklaw49.SizechangeComposes'. -/
def sizechangeComposesUptoCard : Claim7 := { stood := { row := sizechangeComposesUptoRow, standIns := [], harness := (true, "107040cc138538a8845408b9b9b46a0c08b67c87126b2612acbd0119ac1f4d94"), looks := false }, kinds := [], alts := [], laidByText := true, laidKinds := [.data, .data, .data, .data], laidTests := true, laidLooks := .later }
def SizechangeComposesUptoCardSaid : Prop := Claim7.holds Tryd.pinned (.plain (OpenSpec.upto sizechangeComposesSpec)) sizechangeComposesUptoCard

/-- THE SECOND FORM's CARD OF 'liquidchecklaw49.SizechangeCloses'. -/
def sizechangeClosesUptoCard : Claim7 := { stood := { row := sizechangeClosesUptoRow, standIns := [], harness := (true, "107040cc138538a8845408b9b9b46a0c08b67c87126b2612acbd0119ac1f4d94"), looks := false }, kinds := [], alts := [], laidByText := true, laidKinds := [.data, .data, .data, .data], laidTests := true, laidLooks := .later }
def SizechangeClosesUptoCardSaid : Prop := Claim7.holds Tryd.pinned (.plain (OpenSpec.upto sizechangeClosesSpec)) sizechangeClosesUptoCard

/-- THE SECOND FORM's CARD OF 'liquidchecklaw49.SizechangeAssociates'. -/
def sizechangeAssociatesUptoCard : Claim7 := { stood := { row := sizechangeAssociatesUptoRow, standIns := [], harness := (true, "107040cc138538a8845408b9b9b46a0c08b67c87126b2612acbd0119ac1f4d94"), looks := false }, kinds := [], alts := [], laidByText := true, laidKinds := [.data, .data, .data, .data], laidTests := true, laidLooks := .later }
def SizechangeAssociatesUptoCardSaid : Prop := Claim7.holds Tryd.pinned (.plain (OpenSpec.upto sizechangeAssociatesSpec)) sizechangeAssociatesUptoCard

/-- THE SECOND FORM's CARD OF 'liquidchecklaw49.SizechangeClosed'. -/
def sizechangeClosedUptoCard : Claim7 := { stood := { row := sizechangeClosedUptoRow, standIns := [], harness := (true, "107040cc138538a8845408b9b9b46a0c08b67c87126b2612acbd0119ac1f4d94"), looks := false }, kinds := [], alts := [], laidByText := true, laidKinds := [.data, .data, .data, .data], laidTests := true, laidLooks := .later }
def SizechangeClosedUptoCardSaid : Prop := Claim7.holds Tryd.pinned (.plain (OpenSpec.upto sizechangeClosedSpec)) sizechangeClosedUptoCard

/-- THE SECOND FORM's CARD OF 'liquidchecklaw49.SizechangeFalls'. -/
def sizechangeFallsUptoCard : Claim7 := { stood := { row := sizechangeFallsUptoRow, standIns := [], harness := (true, "107040cc138538a8845408b9b9b46a0c08b67c87126b2612acbd0119ac1f4d94"), looks := false }, kinds := [], alts := [], laidByText := true, laidKinds := [.data, .data, .data, .data], laidTests := true, laidLooks := .later }
def SizechangeFallsUptoCardSaid : Prop := Claim7.holds Tryd.pinned (.plain (OpenSpec.upto sizechangeFallsSpec)) sizechangeFallsUptoCard
end Rows
end Go.Proofs.YtoficachfgggjaaDoor

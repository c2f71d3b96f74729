/-
  DERIVED. GIVEN WITH THE SEED: THE CARDS: each row of YthppjdmkinbccaaGreatDoorRows.lean that lists a variable, with what it lists TIED to the program's text (the seventh form; the later family's looks); each row that meets fmt, with fmt's text TOLD by the authors' own Lean function (tested against real Go, not proved from fmt's source: count such statements apart). THE CARD IS WHAT COUNTS. Prove the row's statement (the work); the ties are given (YthppjdmkinbccaaGreatDoorTie.lean); close each card by the builder's one call (the guide's Derived/Test/ToyasCard.lean, 'card_holds'). Laid BY PROGRAM, IN A SANDBOX (cutbox-door.mjs). By AI agents, Wed Nov 11 2026. No macro, syntax, notation, axiom, sorry.
-/
import Derived.Test.YthppjdmkinbccaaGreatDoorRows
import GoSem.ClaimSeven
namespace Go.Proofs.YthppjdmkinbccaaGreatDoor
namespace Rows

/-- THE TIED CARD OF 'fluxionlaw04.DigitsReads'. -/
def digitsReadsCard : Claim7 := { stood := { row := digitsReadsRow, standIns := [], harness := (true, "112071ec4010246bc243959aa07841017b49f79df7ac89da78a9edae0423d846"), looks := true }, kinds := [], alts := [], laidByText := true, laidKinds := [.data, .data, .data, .sentinel, .sentinel], laidTests := true, laidLooks := .later }
def DigitsReadsCardSaid : Prop := Claim7.holds Tryz.pinned (.plain (OpenSpec.ofChange digitsReadsSpec)) digitsReadsCard

/-- THE TIED CARD OF 'fluxionlaw04.DigitsRats'. -/
def digitsRatsCard : Claim7 := { stood := { row := digitsRatsRow, standIns := [], harness := (true, "112071ec4010246bc243959aa07841017b49f79df7ac89da78a9edae0423d846"), looks := true }, kinds := [], alts := [], laidByText := true, laidKinds := [.data, .data, .data, .sentinel, .sentinel], laidTests := true, laidLooks := .later }
def DigitsRatsCardSaid : Prop := Claim7.holds Tryz.pinned (.plain (OpenSpec.ofChange digitsRatsSpec)) digitsRatsCard

/-- THE TIED CARD OF 'fluxionlaw04.DigitsTexts'. -/
def digitsTextsCard : Claim7 := { stood := { row := digitsTextsRow, standIns := [], harness := (true, "112071ec4010246bc243959aa07841017b49f79df7ac89da78a9edae0423d846"), looks := true }, kinds := [], alts := [], laidByText := true, laidKinds := [.data, .data, .data, .sentinel, .sentinel], laidTests := true, laidLooks := .later }
def DigitsTextsCardSaid : Prop := Claim7.holds Tryz.pinned (.plain (OpenSpec.ofChange digitsTextsSpec)) digitsTextsCard

/-- THE TIED CARD OF 'fluxionlaw04.DigitsBack'. -/
def digitsBackCard : Claim7 := { stood := { row := digitsBackRow, standIns := [], harness := (true, "112071ec4010246bc243959aa07841017b49f79df7ac89da78a9edae0423d846"), looks := true }, kinds := [], alts := [], laidByText := true, laidKinds := [.data, .data, .data, .sentinel, .sentinel], laidTests := true, laidLooks := .later }
def DigitsBackCardSaid : Prop := Claim7.holds Tryz.pinned (.plain (OpenSpec.ofChange digitsBackSpec)) digitsBackCard

/-- THE TIED CARD OF 'fluxionlaw04.DigitsUnlike'. -/
def digitsUnlikeCard : Claim7 := { stood := { row := digitsUnlikeRow, standIns := [], harness := (true, "112071ec4010246bc243959aa07841017b49f79df7ac89da78a9edae0423d846"), looks := true }, kinds := [], alts := [], laidByText := true, laidKinds := [.data, .data, .data, .sentinel, .sentinel], laidTests := true, laidLooks := .later }
def DigitsUnlikeCardSaid : Prop := Claim7.holds Tryz.pinned (.plain (OpenSpec.ofChange digitsUnlikeSpec)) digitsUnlikeCard

/-- THE TIED CARD OF 'fluxionlaw04.DigitsOrder'. -/
def digitsOrderCard : Claim7 := { stood := { row := digitsOrderRow, standIns := [], harness := (true, "112071ec4010246bc243959aa07841017b49f79df7ac89da78a9edae0423d846"), looks := true }, kinds := [], alts := [], laidByText := true, laidKinds := [.data, .data, .data, .sentinel, .sentinel], laidTests := true, laidLooks := .later }
def DigitsOrderCardSaid : Prop := Claim7.holds Tryz.pinned (.plain (OpenSpec.ofChange digitsOrderSpec)) digitsOrderCard

/-- THE TIED CARD OF 'fluxionlaw04.DigitsMost'. -/
def digitsMostCard : Claim7 := { stood := { row := digitsMostRow, standIns := [], harness := (true, "112071ec4010246bc243959aa07841017b49f79df7ac89da78a9edae0423d846"), looks := true }, kinds := [], alts := [], laidByText := true, laidKinds := [.data, .data, .data, .sentinel, .sentinel], laidTests := true, laidLooks := .later }
def DigitsMostCardSaid : Prop := Claim7.holds Tryz.pinned (.plain (OpenSpec.ofChange digitsMostSpec)) digitsMostCard

/-- THE TIED CARD OF 'fluxionlaw04.DigitsNats'. -/
def digitsNatsCard : Claim7 := { stood := { row := digitsNatsRow, standIns := [], harness := (true, "112071ec4010246bc243959aa07841017b49f79df7ac89da78a9edae0423d846"), looks := true }, kinds := [], alts := [], laidByText := true, laidKinds := [.data, .data, .data, .sentinel, .sentinel], laidTests := true, laidLooks := .later }
def DigitsNatsCardSaid : Prop := Claim7.holds Tryz.pinned (.plain (OpenSpec.ofChange digitsNatsSpec)) digitsNatsCard

/-- THE TIED CARD OF 'fluxionlaw04.DigitsGrows'. -/
def digitsGrowsCard : Claim7 := { stood := { row := digitsGrowsRow, standIns := [], harness := (true, "112071ec4010246bc243959aa07841017b49f79df7ac89da78a9edae0423d846"), looks := true }, kinds := [], alts := [], laidByText := true, laidKinds := [.data, .data, .data, .sentinel, .sentinel], laidTests := true, laidLooks := .later }
def DigitsGrowsCardSaid : Prop := Claim7.holds Tryz.pinned (.plain (OpenSpec.ofChange digitsGrowsSpec)) digitsGrowsCard

/-- THE SECOND FORM's CARD OF 'fluxionlaw04.DigitsReads'. -/
def digitsReadsUptoCard : Claim7 := { stood := { row := digitsReadsUptoRow, standIns := [], harness := (true, "112071ec4010246bc243959aa07841017b49f79df7ac89da78a9edae0423d846"), looks := true }, kinds := [], alts := [], laidByText := true, laidKinds := [.data, .data, .data, .sentinel, .sentinel], laidTests := true, laidLooks := .later }
def DigitsReadsUptoCardSaid : Prop := Claim7.holds Tryz.pinned (.plain (OpenSpec.upto digitsReadsSpec)) digitsReadsUptoCard

/-- THE SECOND FORM's CARD OF 'fluxionlaw04.DigitsRats'. -/
def digitsRatsUptoCard : Claim7 := { stood := { row := digitsRatsUptoRow, standIns := [], harness := (true, "112071ec4010246bc243959aa07841017b49f79df7ac89da78a9edae0423d846"), looks := true }, kinds := [], alts := [], laidByText := true, laidKinds := [.data, .data, .data, .sentinel, .sentinel], laidTests := true, laidLooks := .later }
def DigitsRatsUptoCardSaid : Prop := Claim7.holds Tryz.pinned (.plain (OpenSpec.upto digitsRatsSpec)) digitsRatsUptoCard

/-- THE SECOND FORM's CARD OF 'fluxionlaw04.DigitsTexts'. -/
def digitsTextsUptoCard : Claim7 := { stood := { row := digitsTextsUptoRow, standIns := [], harness := (true, "112071ec4010246bc243959aa07841017b49f79df7ac89da78a9edae0423d846"), looks := true }, kinds := [], alts := [], laidByText := true, laidKinds := [.data, .data, .data, .sentinel, .sentinel], laidTests := true, laidLooks := .later }
def DigitsTextsUptoCardSaid : Prop := Claim7.holds Tryz.pinned (.plain (OpenSpec.upto digitsTextsSpec)) digitsTextsUptoCard

/-- THE SECOND FORM's CARD OF 'fluxionlaw04.DigitsBack'. -/
def digitsBackUptoCard : Claim7 := { stood := { row := digitsBackUptoRow, standIns := [], harness := (true, "112071ec4010246bc243959aa07841017b49f79df7ac89da78a9edae0423d846"), looks := true }, kinds := [], alts := [], laidByText := true, laidKinds := [.data, .data, .data, .sentinel, .sentinel], laidTests := true, laidLooks := .later }
def DigitsBackUptoCardSaid : Prop := Claim7.holds Tryz.pinned (.plain (OpenSpec.upto digitsBackSpec)) digitsBackUptoCard

/-- THE SECOND FORM's CARD OF 'fluxionlaw04.DigitsUnlike'. -/
def digitsUnlikeUptoCard : Claim7 := { stood := { row := digitsUnlikeUptoRow, standIns := [], harness := (true, "112071ec4010246bc243959aa07841017b49f79df7ac89da78a9edae0423d846"), looks := true }, kinds := [], alts := [], laidByText := true, laidKinds := [.data, .data, .data, .sentinel, .sentinel], laidTests := true, laidLooks := .later }
def DigitsUnlikeUptoCardSaid : Prop := Claim7.holds Tryz.pinned (.plain (OpenSpec.upto digitsUnlikeSpec)) digitsUnlikeUptoCard

/-- THE SECOND FORM's CARD OF 'fluxionlaw04.DigitsOrder'. -/
def digitsOrderUptoCard : Claim7 := { stood := { row := digitsOrderUptoRow, standIns := [], harness := (true, "112071ec4010246bc243959aa07841017b49f79df7ac89da78a9edae0423d846"), looks := true }, kinds := [], alts := [], laidByText := true, laidKinds := [.data, .data, .data, .sentinel, .sentinel], laidTests := true, laidLooks := .later }
def DigitsOrderUptoCardSaid : Prop := Claim7.holds Tryz.pinned (.plain (OpenSpec.upto digitsOrderSpec)) digitsOrderUptoCard

/-- THE SECOND FORM's CARD OF 'fluxionlaw04.DigitsMost'. -/
def digitsMostUptoCard : Claim7 := { stood := { row := digitsMostUptoRow, standIns := [], harness := (true, "112071ec4010246bc243959aa07841017b49f79df7ac89da78a9edae0423d846"), looks := true }, kinds := [], alts := [], laidByText := true, laidKinds := [.data, .data, .data, .sentinel, .sentinel], laidTests := true, laidLooks := .later }
def DigitsMostUptoCardSaid : Prop := Claim7.holds Tryz.pinned (.plain (OpenSpec.upto digitsMostSpec)) digitsMostUptoCard

/-- THE SECOND FORM's CARD OF 'fluxionlaw04.DigitsNats'. -/
def digitsNatsUptoCard : Claim7 := { stood := { row := digitsNatsUptoRow, standIns := [], harness := (true, "112071ec4010246bc243959aa07841017b49f79df7ac89da78a9edae0423d846"), looks := true }, kinds := [], alts := [], laidByText := true, laidKinds := [.data, .data, .data, .sentinel, .sentinel], laidTests := true, laidLooks := .later }
def DigitsNatsUptoCardSaid : Prop := Claim7.holds Tryz.pinned (.plain (OpenSpec.upto digitsNatsSpec)) digitsNatsUptoCard

/-- THE SECOND FORM's CARD OF 'fluxionlaw04.DigitsGrows'. -/
def digitsGrowsUptoCard : Claim7 := { stood := { row := digitsGrowsUptoRow, standIns := [], harness := (true, "112071ec4010246bc243959aa07841017b49f79df7ac89da78a9edae0423d846"), looks := true }, kinds := [], alts := [], laidByText := true, laidKinds := [.data, .data, .data, .sentinel, .sentinel], laidTests := true, laidLooks := .later }
def DigitsGrowsUptoCardSaid : Prop := Claim7.holds Tryz.pinned (.plain (OpenSpec.upto digitsGrowsSpec)) digitsGrowsUptoCard
end Rows
end Go.Proofs.YthppjdmkinbccaaGreatDoor

/-
  DERIVED. GIVEN WITH THE SEED: THE CARDS: each row of YtibaoacjjcgjlaaGreatDoorRows.lean that lists a variable, with what it lists TIED to the program's text (the seventh form; the later family's looks); each row that meets fmt, with fmt's text TOLD by the authors' own Lean function (tested against real Go, not proved from fmt's source: count such statements apart). THE CARD IS WHAT COUNTS. Prove the row's statement (the work); the ties are given (YtibaoacjjcgjlaaGreatDoorTie.lean); close each card by the builder's one call (the guide's Derived/Test/ToyasCard.lean, 'card_holds'). Laid BY PROGRAM, IN A SANDBOX (cutbox-door.mjs). By AI agents, Wed Nov 11 2026. No macro, syntax, notation, axiom, sorry.
-/
import Derived.Test.YtibaoacjjcgjlaaGreatDoorRows
import GoSem.ClaimSeven
namespace Go.Proofs.YtibaoacjjcgjlaaGreatDoor
namespace Rows

/-- THE TIED CARD OF 'fluxionlaw16.LexNumbers'. -/
def lexNumbersCard : Claim7 := { stood := { row := lexNumbersRow, standIns := [], harness := (true, "522dad947b80212a4f3b97e81de92fca0ae4bf9aa6cd06f29890edd5a5f2a368"), looks := true }, kinds := [], alts := [], laidByText := true, laidKinds := [.data, .data, .data, .data, .sentinel, .sentinel, .pinned], laidTests := true, laidLooks := .later }
def LexNumbersCardSaid : Prop := Claim7.holds Tryz.pinned (.plain (OpenSpec.ofChange lexNumbersSpec)) lexNumbersCard

/-- THE TIED CARD OF 'fluxionlaw16.LexApart'. -/
def lexApartCard : Claim7 := { stood := { row := lexApartRow, standIns := [], harness := (true, "522dad947b80212a4f3b97e81de92fca0ae4bf9aa6cd06f29890edd5a5f2a368"), looks := true }, kinds := [], alts := [], laidByText := true, laidKinds := [.data, .data, .data, .data, .sentinel, .sentinel, .pinned], laidTests := true, laidLooks := .later }
def LexApartCardSaid : Prop := Claim7.holds Tryz.pinned (.plain (OpenSpec.ofChange lexApartSpec)) lexApartCard

/-- THE SECOND FORM's CARD OF 'fluxionlaw16.LexNumbers'. -/
def lexNumbersUptoCard : Claim7 := { stood := { row := lexNumbersUptoRow, standIns := [], harness := (true, "522dad947b80212a4f3b97e81de92fca0ae4bf9aa6cd06f29890edd5a5f2a368"), looks := true }, kinds := [], alts := [], laidByText := true, laidKinds := [.data, .data, .data, .data, .sentinel, .sentinel, .pinned], laidTests := true, laidLooks := .later }
def LexNumbersUptoCardSaid : Prop := Claim7.holds Tryz.pinned (.plain (OpenSpec.upto lexNumbersSpec)) lexNumbersUptoCard

/-- THE SECOND FORM's CARD OF 'fluxionlaw16.LexApart'. -/
def lexApartUptoCard : Claim7 := { stood := { row := lexApartUptoRow, standIns := [], harness := (true, "522dad947b80212a4f3b97e81de92fca0ae4bf9aa6cd06f29890edd5a5f2a368"), looks := true }, kinds := [], alts := [], laidByText := true, laidKinds := [.data, .data, .data, .data, .sentinel, .sentinel, .pinned], laidTests := true, laidLooks := .later }
def LexApartUptoCardSaid : Prop := Claim7.holds Tryz.pinned (.plain (OpenSpec.upto lexApartSpec)) lexApartUptoCard
end Rows
end Go.Proofs.YtibaoacjjcgjlaaGreatDoor

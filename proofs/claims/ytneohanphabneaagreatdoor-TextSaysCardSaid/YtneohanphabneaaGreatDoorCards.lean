/-
  DERIVED. GIVEN WITH THE SEED: THE CARDS: each row of YtneohanphabneaaGreatDoorRows.lean that lists a variable, with what it lists TIED to the program's text (the seventh form; the later family's looks); each row that meets fmt, with fmt's text TOLD by the authors' own Lean function (tested against real Go, not proved from fmt's source: count such statements apart). THE CARD IS WHAT COUNTS. Prove the row's statement (the work); the ties are given (YtneohanphabneaaGreatDoorTie.lean); close each card by the builder's one call (the guide's Derived/Test/ToyasCard.lean, 'card_holds'). Laid BY PROGRAM, IN A SANDBOX (cutbox-door.mjs). By AI agents, Wed Nov 11 2026. No macro, syntax, notation, axiom, sorry.
-/
import Derived.Test.YtneohanphabneaaGreatDoorRows
import GoSem.ClaimSeven
namespace Go.Proofs.YtneohanphabneaaGreatDoor
namespace Rows

/-- THE TIED CARD OF 'oberlinlaw.PrintSays'. -/
def printSaysCard : Claim7 := { stood := { row := printSaysRow, standIns := [], harness := (true, "dca4c5d8bced8b232f87ad5f05c4e70e36e323a48cb11de862039933204a67fa"), looks := true }, kinds := [], alts := [], laidByText := true, laidKinds := [.data, .data, .data, .handle, .widerDeep], laidTests := true, laidLooks := .later }
def PrintSaysCardSaid : Prop := Claim7.holds Tryz.pinned (.plain (OpenSpec.ofChange printSaysSpec)) printSaysCard

/-- THE TIED CARD OF 'oberlinlaw.TidySays'. -/
def tidySaysCard : Claim7 := { stood := { row := tidySaysRow, standIns := [], harness := (true, "dca4c5d8bced8b232f87ad5f05c4e70e36e323a48cb11de862039933204a67fa"), looks := true }, kinds := [], alts := [], laidByText := true, laidKinds := [.data, .data, .data, .handle, .widerDeep], laidTests := true, laidLooks := .later }
def TidySaysCardSaid : Prop := Claim7.holds Tryz.pinned (.plain (OpenSpec.ofChange tidySaysSpec)) tidySaysCard

/-- THE TIED CARD OF 'oberlinlaw.TextSays'. -/
def textSaysCard : Claim7 := { stood := { row := textSaysRow, standIns := [], harness := (true, "dca4c5d8bced8b232f87ad5f05c4e70e36e323a48cb11de862039933204a67fa"), looks := true }, kinds := [], alts := [], laidByText := true, laidKinds := [.data, .data, .data, .handle, .widerDeep], laidTests := true, laidLooks := .later }
def TextSaysCardSaid : Prop := Claim7.holds Tryz.pinned (.plain (OpenSpec.ofChange textSaysSpec)) textSaysCard

/-- THE SECOND FORM's CARD OF 'oberlinlaw.PrintSays'. -/
def printSaysUptoCard : Claim7 := { stood := { row := printSaysUptoRow, standIns := [], harness := (true, "dca4c5d8bced8b232f87ad5f05c4e70e36e323a48cb11de862039933204a67fa"), looks := true }, kinds := [], alts := [], laidByText := true, laidKinds := [.data, .data, .data, .handle, .widerDeep], laidTests := true, laidLooks := .later }
def PrintSaysUptoCardSaid : Prop := Claim7.holds Tryz.pinned (.plain (OpenSpec.upto printSaysSpec)) printSaysUptoCard

/-- THE SECOND FORM's CARD OF 'oberlinlaw.TidySays'. -/
def tidySaysUptoCard : Claim7 := { stood := { row := tidySaysUptoRow, standIns := [], harness := (true, "dca4c5d8bced8b232f87ad5f05c4e70e36e323a48cb11de862039933204a67fa"), looks := true }, kinds := [], alts := [], laidByText := true, laidKinds := [.data, .data, .data, .handle, .widerDeep], laidTests := true, laidLooks := .later }
def TidySaysUptoCardSaid : Prop := Claim7.holds Tryz.pinned (.plain (OpenSpec.upto tidySaysSpec)) tidySaysUptoCard

/-- THE SECOND FORM's CARD OF 'oberlinlaw.TextSays'. -/
def textSaysUptoCard : Claim7 := { stood := { row := textSaysUptoRow, standIns := [], harness := (true, "dca4c5d8bced8b232f87ad5f05c4e70e36e323a48cb11de862039933204a67fa"), looks := true }, kinds := [], alts := [], laidByText := true, laidKinds := [.data, .data, .data, .handle, .widerDeep], laidTests := true, laidLooks := .later }
def TextSaysUptoCardSaid : Prop := Claim7.holds Tryz.pinned (.plain (OpenSpec.upto textSaysSpec)) textSaysUptoCard
end Rows
end Go.Proofs.YtneohanphabneaaGreatDoor

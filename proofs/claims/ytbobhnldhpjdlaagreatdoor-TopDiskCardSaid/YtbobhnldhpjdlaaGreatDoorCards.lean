/-
  DERIVED. GIVEN WITH THE SEED: THE CARDS: each row of YtbobhnldhpjdlaaGreatDoorRows.lean that lists a variable, with what it lists TIED to the program's text (the seventh form; the later family's looks); each row that meets fmt, with fmt's text TOLD by the authors' own Lean function (tested against real Go, not proved from fmt's source: count such statements apart). THE CARD IS WHAT COUNTS. Prove the row's statement (the work); the ties are given (YtbobhnldhpjdlaaGreatDoorTie.lean); close each card by the builder's one call (the guide's Derived/Test/ToyasCard.lean, 'card_holds'). Laid BY PROGRAM, IN A SANDBOX (cutbox-door.mjs). By AI agents, Wed Nov 11 2026. No macro, syntax, notation, axiom, sorry.
-/
import Derived.Test.YtbobhnldhpjdlaaGreatDoorRows
import GoSem.ClaimSeven
namespace Go.Proofs.YtbobhnldhpjdlaaGreatDoor
namespace Rows

/-- THE TIED CARD OF 'caissontop.TopMoved'. -/
def topMovedCard : Claim7 := { stood := { row := topMovedRow, standIns := [], harness := (true, "e75b239f2b01c512b695a4dc48174b9498baf996278a569a6fe86796aa5285c3"), looks := true }, kinds := [], alts := [], laidByText := true, laidKinds := [.data, .data, .handle, .data, .sentinel], laidTests := true, laidLooks := .later }
def TopMovedCardSaid : Prop := Claim7.holds Tryz.pinned (.plain (OpenSpec.ofChange topMovedSpec)) topMovedCard

/-- THE TIED CARD OF 'caissontop.TopDisk'. -/
def topDiskCard : Claim7 := { stood := { row := topDiskRow, standIns := [], harness := (true, "e75b239f2b01c512b695a4dc48174b9498baf996278a569a6fe86796aa5285c3"), looks := true }, kinds := [], alts := [], laidByText := true, laidKinds := [.data, .data, .handle, .data, .sentinel], laidTests := true, laidLooks := .later }
def TopDiskCardSaid : Prop := Claim7.holds Tryz.pinned (.plain (OpenSpec.ofChange topDiskSpec)) topDiskCard

/-- THE TIED CARD OF 'caissontop.TopOld'. -/
def topOldCard : Claim7 := { stood := { row := topOldRow, standIns := [], harness := (true, "e75b239f2b01c512b695a4dc48174b9498baf996278a569a6fe86796aa5285c3"), looks := true }, kinds := [], alts := [], laidByText := true, laidKinds := [.data, .data, .handle, .data, .sentinel], laidTests := true, laidLooks := .later }
def TopOldCardSaid : Prop := Claim7.holds Tryz.pinned (.plain (OpenSpec.ofChange topOldSpec)) topOldCard

/-- THE TIED CARD OF 'caissontop.TopRecovered'. -/
def topRecoveredCard : Claim7 := { stood := { row := topRecoveredRow, standIns := [], harness := (true, "e75b239f2b01c512b695a4dc48174b9498baf996278a569a6fe86796aa5285c3"), looks := true }, kinds := [], alts := [], laidByText := true, laidKinds := [.data, .data, .handle, .data, .sentinel], laidTests := true, laidLooks := .later }
def TopRecoveredCardSaid : Prop := Claim7.holds Tryz.pinned (.plain (OpenSpec.ofChange topRecoveredSpec)) topRecoveredCard

/-- THE TIED CARD OF 'caissontop.TopLog'. -/
def topLogCard : Claim7 := { stood := { row := topLogRow, standIns := [], harness := (true, "e75b239f2b01c512b695a4dc48174b9498baf996278a569a6fe86796aa5285c3"), looks := true }, kinds := [], alts := [], laidByText := true, laidKinds := [.data, .data, .handle, .data, .sentinel], laidTests := true, laidLooks := .later }
def TopLogCardSaid : Prop := Claim7.holds Tryz.pinned (.plain (OpenSpec.ofChange topLogSpec)) topLogCard

/-- THE SECOND FORM's CARD OF 'caissontop.TopMoved'. -/
def topMovedUptoCard : Claim7 := { stood := { row := topMovedUptoRow, standIns := [], harness := (true, "e75b239f2b01c512b695a4dc48174b9498baf996278a569a6fe86796aa5285c3"), looks := true }, kinds := [], alts := [], laidByText := true, laidKinds := [.data, .data, .handle, .data, .sentinel], laidTests := true, laidLooks := .later }
def TopMovedUptoCardSaid : Prop := Claim7.holds Tryz.pinned (.plain (OpenSpec.upto topMovedSpec)) topMovedUptoCard

/-- THE SECOND FORM's CARD OF 'caissontop.TopDisk'. -/
def topDiskUptoCard : Claim7 := { stood := { row := topDiskUptoRow, standIns := [], harness := (true, "e75b239f2b01c512b695a4dc48174b9498baf996278a569a6fe86796aa5285c3"), looks := true }, kinds := [], alts := [], laidByText := true, laidKinds := [.data, .data, .handle, .data, .sentinel], laidTests := true, laidLooks := .later }
def TopDiskUptoCardSaid : Prop := Claim7.holds Tryz.pinned (.plain (OpenSpec.upto topDiskSpec)) topDiskUptoCard

/-- THE SECOND FORM's CARD OF 'caissontop.TopOld'. -/
def topOldUptoCard : Claim7 := { stood := { row := topOldUptoRow, standIns := [], harness := (true, "e75b239f2b01c512b695a4dc48174b9498baf996278a569a6fe86796aa5285c3"), looks := true }, kinds := [], alts := [], laidByText := true, laidKinds := [.data, .data, .handle, .data, .sentinel], laidTests := true, laidLooks := .later }
def TopOldUptoCardSaid : Prop := Claim7.holds Tryz.pinned (.plain (OpenSpec.upto topOldSpec)) topOldUptoCard

/-- THE SECOND FORM's CARD OF 'caissontop.TopRecovered'. -/
def topRecoveredUptoCard : Claim7 := { stood := { row := topRecoveredUptoRow, standIns := [], harness := (true, "e75b239f2b01c512b695a4dc48174b9498baf996278a569a6fe86796aa5285c3"), looks := true }, kinds := [], alts := [], laidByText := true, laidKinds := [.data, .data, .handle, .data, .sentinel], laidTests := true, laidLooks := .later }
def TopRecoveredUptoCardSaid : Prop := Claim7.holds Tryz.pinned (.plain (OpenSpec.upto topRecoveredSpec)) topRecoveredUptoCard

/-- THE SECOND FORM's CARD OF 'caissontop.TopLog'. -/
def topLogUptoCard : Claim7 := { stood := { row := topLogUptoRow, standIns := [], harness := (true, "e75b239f2b01c512b695a4dc48174b9498baf996278a569a6fe86796aa5285c3"), looks := true }, kinds := [], alts := [], laidByText := true, laidKinds := [.data, .data, .handle, .data, .sentinel], laidTests := true, laidLooks := .later }
def TopLogUptoCardSaid : Prop := Claim7.holds Tryz.pinned (.plain (OpenSpec.upto topLogSpec)) topLogUptoCard
end Rows
end Go.Proofs.YtbobhnldhpjdlaaGreatDoor

/-
  DERIVED. GIVEN WITH THE SEED: THE CARDS: each row of YtkmhgepdhilllaaGreatDoorRows.lean that lists a variable, with what it lists TIED to the program's text (the seventh form; the later family's looks); each row that meets fmt, with fmt's text TOLD by the authors' own Lean function (tested against real Go, not proved from fmt's source: count such statements apart). THE CARD IS WHAT COUNTS. Prove the row's statement (the work); the ties are given (YtkmhgepdhilllaaGreatDoorTie.lean); close each card by the builder's one call (the guide's Derived/Test/ToyasCard.lean, 'card_holds'). Laid BY PROGRAM, IN A SANDBOX (cutbox-door.mjs). By AI agents, Wed Nov 11 2026. No macro, syntax, notation, axiom, sorry.
-/
import Derived.Test.YtkmhgepdhilllaaGreatDoorRows
import GoSem.ClaimSeven
namespace Go.Proofs.YtkmhgepdhilllaaGreatDoor
namespace Rows

/-- THE TIED CARD OF 'caissonlaw18.UpdatesSteps'. -/
def updatesStepsCard : Claim7 := { stood := { row := updatesStepsRow, standIns := [], harness := (true, "302b850db38b4140c209123c47fc283c4d2120552482411d944eabe8b936d06a"), looks := true }, kinds := [], alts := [], laidByText := true, laidKinds := [.data, .data, .handle, .data], laidTests := true, laidLooks := .later }
def UpdatesStepsCardSaid : Prop := Claim7.holds Tryz.pinned (.plain (OpenSpec.ofChange updatesStepsSpec)) updatesStepsCard

/-- THE TIED CARD OF 'caissonlaw18.UpdatesOrder'. -/
def updatesOrderCard : Claim7 := { stood := { row := updatesOrderRow, standIns := [], harness := (true, "302b850db38b4140c209123c47fc283c4d2120552482411d944eabe8b936d06a"), looks := true }, kinds := [], alts := [], laidByText := true, laidKinds := [.data, .data, .handle, .data], laidTests := true, laidLooks := .later }
def UpdatesOrderCardSaid : Prop := Claim7.holds Tryz.pinned (.plain (OpenSpec.ofChange updatesOrderSpec)) updatesOrderCard

/-- THE TIED CARD OF 'caissonlaw18.UpdatesSafe'. -/
def updatesSafeCard : Claim7 := { stood := { row := updatesSafeRow, standIns := [], harness := (true, "302b850db38b4140c209123c47fc283c4d2120552482411d944eabe8b936d06a"), looks := true }, kinds := [], alts := [], laidByText := true, laidKinds := [.data, .data, .handle, .data], laidTests := true, laidLooks := .later }
def UpdatesSafeCardSaid : Prop := Claim7.holds Tryz.pinned (.plain (OpenSpec.ofChange updatesSafeSpec)) updatesSafeCard

/-- THE TIED CARD OF 'caissonlaw18.UpdatesOf'. -/
def updatesOfCard : Claim7 := { stood := { row := updatesOfRow, standIns := [], harness := (true, "302b850db38b4140c209123c47fc283c4d2120552482411d944eabe8b936d06a"), looks := true }, kinds := [], alts := [], laidByText := true, laidKinds := [.data, .data, .handle, .data], laidTests := true, laidLooks := .later }
def UpdatesOfCardSaid : Prop := Claim7.holds Tryz.pinned (.plain (OpenSpec.ofChange updatesOfSpec)) updatesOfCard

/-- THE TIED CARD OF 'caissonlaw18.UpdatesKnown'. -/
def updatesKnownCard : Claim7 := { stood := { row := updatesKnownRow, standIns := [], harness := (true, "302b850db38b4140c209123c47fc283c4d2120552482411d944eabe8b936d06a"), looks := true }, kinds := [], alts := [], laidByText := true, laidKinds := [.data, .data, .handle, .data], laidTests := true, laidLooks := .later }
def UpdatesKnownCardSaid : Prop := Claim7.holds Tryz.pinned (.plain (OpenSpec.ofChange updatesKnownSpec)) updatesKnownCard

/-- THE TIED CARD OF 'caissonlaw18.UpdatesViews'. -/
def updatesViewsCard : Claim7 := { stood := { row := updatesViewsRow, standIns := [], harness := (true, "302b850db38b4140c209123c47fc283c4d2120552482411d944eabe8b936d06a"), looks := true }, kinds := [], alts := [], laidByText := true, laidKinds := [.data, .data, .handle, .data], laidTests := true, laidLooks := .later }
def UpdatesViewsCardSaid : Prop := Claim7.holds Tryz.pinned (.plain (OpenSpec.ofChange updatesViewsSpec)) updatesViewsCard

/-- THE TIED CARD OF 'caissonlaw18.UpdatesCheck'. -/
def updatesCheckCard : Claim7 := { stood := { row := updatesCheckRow, standIns := [], harness := (true, "302b850db38b4140c209123c47fc283c4d2120552482411d944eabe8b936d06a"), looks := true }, kinds := [], alts := [], laidByText := true, laidKinds := [.data, .data, .handle, .data], laidTests := true, laidLooks := .later }
def UpdatesCheckCardSaid : Prop := Claim7.holds Tryz.pinned (.plain (OpenSpec.ofChange updatesCheckSpec)) updatesCheckCard

/-- THE SECOND FORM's CARD OF 'caissonlaw18.UpdatesSteps'. -/
def updatesStepsUptoCard : Claim7 := { stood := { row := updatesStepsUptoRow, standIns := [], harness := (true, "302b850db38b4140c209123c47fc283c4d2120552482411d944eabe8b936d06a"), looks := true }, kinds := [], alts := [], laidByText := true, laidKinds := [.data, .data, .handle, .data], laidTests := true, laidLooks := .later }
def UpdatesStepsUptoCardSaid : Prop := Claim7.holds Tryz.pinned (.plain (OpenSpec.upto updatesStepsSpec)) updatesStepsUptoCard

/-- THE SECOND FORM's CARD OF 'caissonlaw18.UpdatesOrder'. -/
def updatesOrderUptoCard : Claim7 := { stood := { row := updatesOrderUptoRow, standIns := [], harness := (true, "302b850db38b4140c209123c47fc283c4d2120552482411d944eabe8b936d06a"), looks := true }, kinds := [], alts := [], laidByText := true, laidKinds := [.data, .data, .handle, .data], laidTests := true, laidLooks := .later }
def UpdatesOrderUptoCardSaid : Prop := Claim7.holds Tryz.pinned (.plain (OpenSpec.upto updatesOrderSpec)) updatesOrderUptoCard

/-- THE SECOND FORM's CARD OF 'caissonlaw18.UpdatesSafe'. -/
def updatesSafeUptoCard : Claim7 := { stood := { row := updatesSafeUptoRow, standIns := [], harness := (true, "302b850db38b4140c209123c47fc283c4d2120552482411d944eabe8b936d06a"), looks := true }, kinds := [], alts := [], laidByText := true, laidKinds := [.data, .data, .handle, .data], laidTests := true, laidLooks := .later }
def UpdatesSafeUptoCardSaid : Prop := Claim7.holds Tryz.pinned (.plain (OpenSpec.upto updatesSafeSpec)) updatesSafeUptoCard

/-- THE SECOND FORM's CARD OF 'caissonlaw18.UpdatesOf'. -/
def updatesOfUptoCard : Claim7 := { stood := { row := updatesOfUptoRow, standIns := [], harness := (true, "302b850db38b4140c209123c47fc283c4d2120552482411d944eabe8b936d06a"), looks := true }, kinds := [], alts := [], laidByText := true, laidKinds := [.data, .data, .handle, .data], laidTests := true, laidLooks := .later }
def UpdatesOfUptoCardSaid : Prop := Claim7.holds Tryz.pinned (.plain (OpenSpec.upto updatesOfSpec)) updatesOfUptoCard

/-- THE SECOND FORM's CARD OF 'caissonlaw18.UpdatesKnown'. -/
def updatesKnownUptoCard : Claim7 := { stood := { row := updatesKnownUptoRow, standIns := [], harness := (true, "302b850db38b4140c209123c47fc283c4d2120552482411d944eabe8b936d06a"), looks := true }, kinds := [], alts := [], laidByText := true, laidKinds := [.data, .data, .handle, .data], laidTests := true, laidLooks := .later }
def UpdatesKnownUptoCardSaid : Prop := Claim7.holds Tryz.pinned (.plain (OpenSpec.upto updatesKnownSpec)) updatesKnownUptoCard

/-- THE SECOND FORM's CARD OF 'caissonlaw18.UpdatesViews'. -/
def updatesViewsUptoCard : Claim7 := { stood := { row := updatesViewsUptoRow, standIns := [], harness := (true, "302b850db38b4140c209123c47fc283c4d2120552482411d944eabe8b936d06a"), looks := true }, kinds := [], alts := [], laidByText := true, laidKinds := [.data, .data, .handle, .data], laidTests := true, laidLooks := .later }
def UpdatesViewsUptoCardSaid : Prop := Claim7.holds Tryz.pinned (.plain (OpenSpec.upto updatesViewsSpec)) updatesViewsUptoCard

/-- THE SECOND FORM's CARD OF 'caissonlaw18.UpdatesCheck'. -/
def updatesCheckUptoCard : Claim7 := { stood := { row := updatesCheckUptoRow, standIns := [], harness := (true, "302b850db38b4140c209123c47fc283c4d2120552482411d944eabe8b936d06a"), looks := true }, kinds := [], alts := [], laidByText := true, laidKinds := [.data, .data, .handle, .data], laidTests := true, laidLooks := .later }
def UpdatesCheckUptoCardSaid : Prop := Claim7.holds Tryz.pinned (.plain (OpenSpec.upto updatesCheckSpec)) updatesCheckUptoCard
end Rows
end Go.Proofs.YtkmhgepdhilllaaGreatDoor

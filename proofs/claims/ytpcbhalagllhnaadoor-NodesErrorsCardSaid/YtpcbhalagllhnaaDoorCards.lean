/-
  DERIVED. GIVEN WITH THE SEED: THE CARDS: each row of YtpcbhalagllhnaaDoorRows.lean that lists a variable, with what it lists TIED to the program's text (the seventh form; the later family's looks); each row that meets fmt, with fmt's text TOLD by the authors' own Lean function (tested against real Go, not proved from fmt's source: count such statements apart). THE CARD IS WHAT COUNTS. Prove the row's statement (the work); the ties are given (YtpcbhalagllhnaaDoorTie.lean); close each card by the builder's one call (the guide's Derived/Test/ToyasCard.lean, 'card_holds'). Laid BY PROGRAM, IN A SANDBOX (cutbox-door.mjs). By AI agents, Wed Nov 11 2026. No macro, syntax, notation, axiom, sorry.
-/
import Derived.Test.YtpcbhalagllhnaaDoorRows
import GoSem.ClaimSeven
namespace Go.Proofs.YtpcbhalagllhnaaDoor
namespace Rows

/-- THE TIED CARD OF 'caissonlaw13.NodesBack'. -/
def nodesBackCard : Claim7 := { stood := { row := nodesBackRow, standIns := [], harness := (true, "374d4f073175a78012143ff94d22733b3544ef0f84d7d0dc48f5e8705a19b773"), looks := false }, kinds := [], alts := [], laidByText := true, laidKinds := [.data], laidTests := true, laidLooks := .later }
def NodesBackCardSaid : Prop := Claim7.holds Tryd.pinned (.plain (OpenSpec.ofChange nodesBackSpec)) nodesBackCard

/-- THE TIED CARD OF 'caissonlaw13.NodesGet'. -/
def nodesGetCard : Claim7 := { stood := { row := nodesGetRow, standIns := [], harness := (true, "374d4f073175a78012143ff94d22733b3544ef0f84d7d0dc48f5e8705a19b773"), looks := false }, kinds := [], alts := [], laidByText := true, laidKinds := [.data], laidTests := true, laidLooks := .later }
def NodesGetCardSaid : Prop := Claim7.holds Tryd.pinned (.plain (OpenSpec.ofChange nodesGetSpec)) nodesGetCard

/-- THE TIED CARD OF 'caissonlaw13.NodesKnown'. -/
def nodesKnownCard : Claim7 := { stood := { row := nodesKnownRow, standIns := [], harness := (true, "374d4f073175a78012143ff94d22733b3544ef0f84d7d0dc48f5e8705a19b773"), looks := false }, kinds := [], alts := [], laidByText := true, laidKinds := [.data], laidTests := true, laidLooks := .later }
def NodesKnownCardSaid : Prop := Claim7.holds Tryd.pinned (.plain (OpenSpec.ofChange nodesKnownSpec)) nodesKnownCard

/-- THE TIED CARD OF 'caissonlaw13.NodesWith'. -/
def nodesWithCard : Claim7 := { stood := { row := nodesWithRow, standIns := [], harness := (true, "374d4f073175a78012143ff94d22733b3544ef0f84d7d0dc48f5e8705a19b773"), looks := false }, kinds := [], alts := [], laidByText := true, laidKinds := [.data], laidTests := true, laidLooks := .later }
def NodesWithCardSaid : Prop := Claim7.holds Tryd.pinned (.plain (OpenSpec.ofChange nodesWithSpec)) nodesWithCard

/-- THE TIED CARD OF 'caissonlaw13.NodesDigest'. -/
def nodesDigestCard : Claim7 := { stood := { row := nodesDigestRow, standIns := [], harness := (true, "374d4f073175a78012143ff94d22733b3544ef0f84d7d0dc48f5e8705a19b773"), looks := false }, kinds := [], alts := [], laidByText := true, laidKinds := [.data, .data, .data], laidTests := true, laidLooks := .later }
def NodesDigestCardSaid : Prop := Claim7.holds Tryd.pinned (.plain (OpenSpec.ofChange nodesDigestSpec)) nodesDigestCard

/-- THE TIED CARD OF 'caissonlaw13.NodesErrors'. -/
def nodesErrorsCard : Claim7 := { stood := { row := nodesErrorsRow, standIns := [], harness := (true, "374d4f073175a78012143ff94d22733b3544ef0f84d7d0dc48f5e8705a19b773"), looks := false }, kinds := [], alts := [], laidByText := true, laidKinds := [.data, .data, .data], laidTests := true, laidLooks := .later }
def NodesErrorsCardSaid : Prop := Claim7.holds Tryd.pinned (.plain (OpenSpec.ofChange nodesErrorsSpec)) nodesErrorsCard

/-- THE SECOND FORM's CARD OF 'caissonlaw13.NodesBack'. -/
def nodesBackUptoCard : Claim7 := { stood := { row := nodesBackUptoRow, standIns := [], harness := (true, "374d4f073175a78012143ff94d22733b3544ef0f84d7d0dc48f5e8705a19b773"), looks := false }, kinds := [], alts := [], laidByText := true, laidKinds := [.data], laidTests := true, laidLooks := .later }
def NodesBackUptoCardSaid : Prop := Claim7.holds Tryd.pinned (.plain (OpenSpec.upto nodesBackSpec)) nodesBackUptoCard

/-- THE SECOND FORM's CARD OF 'caissonlaw13.NodesGet'. -/
def nodesGetUptoCard : Claim7 := { stood := { row := nodesGetUptoRow, standIns := [], harness := (true, "374d4f073175a78012143ff94d22733b3544ef0f84d7d0dc48f5e8705a19b773"), looks := false }, kinds := [], alts := [], laidByText := true, laidKinds := [.data], laidTests := true, laidLooks := .later }
def NodesGetUptoCardSaid : Prop := Claim7.holds Tryd.pinned (.plain (OpenSpec.upto nodesGetSpec)) nodesGetUptoCard

/-- THE SECOND FORM's CARD OF 'caissonlaw13.NodesKnown'. -/
def nodesKnownUptoCard : Claim7 := { stood := { row := nodesKnownUptoRow, standIns := [], harness := (true, "374d4f073175a78012143ff94d22733b3544ef0f84d7d0dc48f5e8705a19b773"), looks := false }, kinds := [], alts := [], laidByText := true, laidKinds := [.data], laidTests := true, laidLooks := .later }
def NodesKnownUptoCardSaid : Prop := Claim7.holds Tryd.pinned (.plain (OpenSpec.upto nodesKnownSpec)) nodesKnownUptoCard

/-- THE SECOND FORM's CARD OF 'caissonlaw13.NodesWith'. -/
def nodesWithUptoCard : Claim7 := { stood := { row := nodesWithUptoRow, standIns := [], harness := (true, "374d4f073175a78012143ff94d22733b3544ef0f84d7d0dc48f5e8705a19b773"), looks := false }, kinds := [], alts := [], laidByText := true, laidKinds := [.data], laidTests := true, laidLooks := .later }
def NodesWithUptoCardSaid : Prop := Claim7.holds Tryd.pinned (.plain (OpenSpec.upto nodesWithSpec)) nodesWithUptoCard

/-- THE SECOND FORM's CARD OF 'caissonlaw13.NodesDigest'. -/
def nodesDigestUptoCard : Claim7 := { stood := { row := nodesDigestUptoRow, standIns := [], harness := (true, "374d4f073175a78012143ff94d22733b3544ef0f84d7d0dc48f5e8705a19b773"), looks := false }, kinds := [], alts := [], laidByText := true, laidKinds := [.data, .data, .data], laidTests := true, laidLooks := .later }
def NodesDigestUptoCardSaid : Prop := Claim7.holds Tryd.pinned (.plain (OpenSpec.upto nodesDigestSpec)) nodesDigestUptoCard

/-- THE SECOND FORM's CARD OF 'caissonlaw13.NodesErrors'. -/
def nodesErrorsUptoCard : Claim7 := { stood := { row := nodesErrorsUptoRow, standIns := [], harness := (true, "374d4f073175a78012143ff94d22733b3544ef0f84d7d0dc48f5e8705a19b773"), looks := false }, kinds := [], alts := [], laidByText := true, laidKinds := [.data, .data, .data], laidTests := true, laidLooks := .later }
def NodesErrorsUptoCardSaid : Prop := Claim7.holds Tryd.pinned (.plain (OpenSpec.upto nodesErrorsSpec)) nodesErrorsUptoCard
end Rows
end Go.Proofs.YtpcbhalagllhnaaDoor

/-
  DERIVED. GIVEN WITH THE SEED: THE CARDS: each row of YtjionkknnajjgaaGreatDoorRows.lean that lists a variable, with what it lists TIED to the program's text (the seventh form; the later family's looks); each row that meets fmt, with fmt's text TOLD by the authors' own Lean function (tested against real Go, not proved from fmt's source: count such statements apart). THE CARD IS WHAT COUNTS. Prove the row's statement (the work); the ties are given (YtjionkknnajjgaaGreatDoorTie.lean); close each card by the builder's one call (the guide's Derived/Test/ToyasCard.lean, 'card_holds'). Laid BY PROGRAM, IN A SANDBOX (cutbox-door.mjs). By AI agents, Wed Nov 11 2026. No macro, syntax, notation, axiom, sorry.
-/
import Derived.Test.YtjionkknnajjgaaGreatDoorRows
import GoSem.ClaimSeven
namespace Go.Proofs.YtjionkknnajjgaaGreatDoor
namespace Rows

/-- THE TIED CARD OF 'plimsolllaw34.TextTells'. -/
def textTellsCard : Claim7 := { stood := { row := textTellsRow, standIns := [], harness := (true, "63c20400025651ee74ca9353bc42a0f083ce473715b29eea5baa64c736a3f1dc"), looks := true }, kinds := [], alts := [], laidByText := true, laidKinds := [.data, .data, .data, .data, .sentinel, .sentinel, .pinned], laidTests := true, laidLooks := .later }
def TextTellsCardSaid : Prop := Claim7.holds Tryz.pinned (.plain (OpenSpec.ofChange textTellsSpec)) textTellsCard

/-- THE TIED CARD OF 'plimsolltop.TopScraped'. -/
def topScrapedCard : Claim7 := { stood := { row := topScrapedRow, standIns := [], harness := (true, "63c20400025651ee74ca9353bc42a0f083ce473715b29eea5baa64c736a3f1dc"), looks := true }, kinds := [], alts := [], laidByText := true, laidKinds := [.data, .data, .data, .data, .sentinel, .sentinel, .pinned], laidTests := true, laidLooks := .later }
def TopScrapedCardSaid : Prop := Claim7.holds Tryz.pinned (.plain (OpenSpec.ofChange topScrapedSpec)) topScrapedCard

/-- THE SECOND FORM's CARD OF 'plimsolllaw34.TextTells'. -/
def textTellsUptoCard : Claim7 := { stood := { row := textTellsUptoRow, standIns := [], harness := (true, "63c20400025651ee74ca9353bc42a0f083ce473715b29eea5baa64c736a3f1dc"), looks := true }, kinds := [], alts := [], laidByText := true, laidKinds := [.data, .data, .data, .data, .sentinel, .sentinel, .pinned], laidTests := true, laidLooks := .later }
def TextTellsUptoCardSaid : Prop := Claim7.holds Tryz.pinned (.plain (OpenSpec.upto textTellsSpec)) textTellsUptoCard

/-- THE SECOND FORM's CARD OF 'plimsolltop.TopScraped'. -/
def topScrapedUptoCard : Claim7 := { stood := { row := topScrapedUptoRow, standIns := [], harness := (true, "63c20400025651ee74ca9353bc42a0f083ce473715b29eea5baa64c736a3f1dc"), looks := true }, kinds := [], alts := [], laidByText := true, laidKinds := [.data, .data, .data, .data, .sentinel, .sentinel, .pinned], laidTests := true, laidLooks := .later }
def TopScrapedUptoCardSaid : Prop := Claim7.holds Tryz.pinned (.plain (OpenSpec.upto topScrapedSpec)) topScrapedUptoCard
end Rows
end Go.Proofs.YtjionkknnajjgaaGreatDoor

/-
  DERIVED. GIVEN WITH THE SEED: THE CARDS: each row of YtfibfcjepngbmaaGreatDoorRows.lean that lists a variable, with what it lists TIED to the program's text (the seventh form; the later family's looks); each row that meets fmt, with fmt's text TOLD by the authors' own Lean function (tested against real Go, not proved from fmt's source: count such statements apart). THE CARD IS WHAT COUNTS. Prove the row's statement (the work); the ties are given (YtfibfcjepngbmaaGreatDoorTie.lean); close each card by the builder's one call (the guide's Derived/Test/ToyasCard.lean, 'card_holds'). Laid BY PROGRAM, IN A SANDBOX (cutbox-door.mjs). By AI agents, Wed Nov 11 2026. No macro, syntax, notation, axiom, sorry.
-/
import Derived.Test.YtfibfcjepngbmaaGreatDoorRows
import GoSem.ClaimSeven
namespace Go.Proofs.YtfibfcjepngbmaaGreatDoor
namespace Rows

/-- THE TIED CARD OF 'plimsolllaw36.BatchTells'. -/
def batchTellsCard : Claim7 := { stood := { row := batchTellsRow, standIns := [], harness := (true, "7d4c94f313af0b6350171731c3ba1a70bb4cef1d1384180b8acfda5993084763"), looks := false }, kinds := [], alts := [], laidByText := true, laidKinds := [.data, .data, .data], laidTests := true, laidLooks := .later }
def BatchTellsCardSaid : Prop := Claim7.holds Tryz.pinned (.plain (OpenSpec.ofChange batchTellsSpec)) batchTellsCard

/-- THE TIED CARD OF 'plimsolllaw36.BatchLong'. -/
def batchLongCard : Claim7 := { stood := { row := batchLongRow, standIns := [], harness := (true, "7d4c94f313af0b6350171731c3ba1a70bb4cef1d1384180b8acfda5993084763"), looks := false }, kinds := [], alts := [], laidByText := true, laidKinds := [.data, .data, .data], laidTests := true, laidLooks := .later }
def BatchLongCardSaid : Prop := Claim7.holds Tryz.pinned (.plain (OpenSpec.ofChange batchLongSpec)) batchLongCard

/-- THE TIED CARD OF 'plimsolllaw36.BatchEach'. -/
def batchEachCard : Claim7 := { stood := { row := batchEachRow, standIns := [], harness := (true, "7d4c94f313af0b6350171731c3ba1a70bb4cef1d1384180b8acfda5993084763"), looks := false }, kinds := [], alts := [], laidByText := true, laidKinds := [.data, .data, .data], laidTests := true, laidLooks := .later }
def BatchEachCardSaid : Prop := Claim7.holds Tryz.pinned (.plain (OpenSpec.ofChange batchEachSpec)) batchEachCard

/-- THE TIED CARD OF 'plimsolllaw36.BatchGroup'. -/
def batchGroupCard : Claim7 := { stood := { row := batchGroupRow, standIns := [], harness := (true, "7d4c94f313af0b6350171731c3ba1a70bb4cef1d1384180b8acfda5993084763"), looks := false }, kinds := [], alts := [], laidByText := true, laidKinds := [.data, .data, .data], laidTests := true, laidLooks := .later }
def BatchGroupCardSaid : Prop := Claim7.holds Tryz.pinned (.plain (OpenSpec.ofChange batchGroupSpec)) batchGroupCard

/-- THE SECOND FORM's CARD OF 'plimsolllaw36.BatchTells'. -/
def batchTellsUptoCard : Claim7 := { stood := { row := batchTellsUptoRow, standIns := [], harness := (true, "7d4c94f313af0b6350171731c3ba1a70bb4cef1d1384180b8acfda5993084763"), looks := false }, kinds := [], alts := [], laidByText := true, laidKinds := [.data, .data, .data], laidTests := true, laidLooks := .later }
def BatchTellsUptoCardSaid : Prop := Claim7.holds Tryz.pinned (.plain (OpenSpec.upto batchTellsSpec)) batchTellsUptoCard

/-- THE SECOND FORM's CARD OF 'plimsolllaw36.BatchLong'. -/
def batchLongUptoCard : Claim7 := { stood := { row := batchLongUptoRow, standIns := [], harness := (true, "7d4c94f313af0b6350171731c3ba1a70bb4cef1d1384180b8acfda5993084763"), looks := false }, kinds := [], alts := [], laidByText := true, laidKinds := [.data, .data, .data], laidTests := true, laidLooks := .later }
def BatchLongUptoCardSaid : Prop := Claim7.holds Tryz.pinned (.plain (OpenSpec.upto batchLongSpec)) batchLongUptoCard

/-- THE SECOND FORM's CARD OF 'plimsolllaw36.BatchEach'. -/
def batchEachUptoCard : Claim7 := { stood := { row := batchEachUptoRow, standIns := [], harness := (true, "7d4c94f313af0b6350171731c3ba1a70bb4cef1d1384180b8acfda5993084763"), looks := false }, kinds := [], alts := [], laidByText := true, laidKinds := [.data, .data, .data], laidTests := true, laidLooks := .later }
def BatchEachUptoCardSaid : Prop := Claim7.holds Tryz.pinned (.plain (OpenSpec.upto batchEachSpec)) batchEachUptoCard

/-- THE SECOND FORM's CARD OF 'plimsolllaw36.BatchGroup'. -/
def batchGroupUptoCard : Claim7 := { stood := { row := batchGroupUptoRow, standIns := [], harness := (true, "7d4c94f313af0b6350171731c3ba1a70bb4cef1d1384180b8acfda5993084763"), looks := false }, kinds := [], alts := [], laidByText := true, laidKinds := [.data, .data, .data], laidTests := true, laidLooks := .later }
def BatchGroupUptoCardSaid : Prop := Claim7.holds Tryz.pinned (.plain (OpenSpec.upto batchGroupSpec)) batchGroupUptoCard
end Rows
end Go.Proofs.YtfibfcjepngbmaaGreatDoor

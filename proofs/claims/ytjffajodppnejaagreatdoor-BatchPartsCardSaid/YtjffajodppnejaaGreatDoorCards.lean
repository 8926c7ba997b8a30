/-
  DERIVED. GIVEN WITH THE SEED: THE CARDS: each row of YtjffajodppnejaaGreatDoorRows.lean that lists a variable, with what it lists TIED to the program's text (the seventh form; the later family's looks); each row that meets fmt, with fmt's text TOLD by the authors' own Lean function (tested against real Go, not proved from fmt's source: count such statements apart). THE CARD IS WHAT COUNTS. Prove the row's statement (the work); the ties are given (YtjffajodppnejaaGreatDoorTie.lean); close each card by the builder's one call (the guide's Derived/Test/ToyasCard.lean, 'card_holds'). Laid BY PROGRAM, IN A SANDBOX (cutbox-door.mjs). By AI agents, Wed Nov 11 2026. No macro, syntax, notation, axiom, sorry.
-/
import Derived.Test.YtjffajodppnejaaGreatDoorRows
import GoSem.ClaimSeven
namespace Go.Proofs.YtjffajodppnejaaGreatDoor
namespace Rows

/-- THE TIED CARD OF 'plimsolllaw36.BatchParts'. -/
def batchPartsCard : Claim7 := { stood := { row := batchPartsRow, standIns := [], harness := (true, "c30da1d64ff33c0eded128ed3130ffcc648d763c1f4103d25fda4e73599a9c6e"), looks := false }, kinds := [], alts := [], laidByText := true, laidKinds := [.data, .data, .data], laidTests := true, laidLooks := .later }
def BatchPartsCardSaid : Prop := Claim7.holds Tryz.pinned (.plain (OpenSpec.ofChange batchPartsSpec)) batchPartsCard

/-- THE SECOND FORM's CARD OF 'plimsolllaw36.BatchParts'. -/
def batchPartsUptoCard : Claim7 := { stood := { row := batchPartsUptoRow, standIns := [], harness := (true, "c30da1d64ff33c0eded128ed3130ffcc648d763c1f4103d25fda4e73599a9c6e"), looks := false }, kinds := [], alts := [], laidByText := true, laidKinds := [.data, .data, .data], laidTests := true, laidLooks := .later }
def BatchPartsUptoCardSaid : Prop := Claim7.holds Tryz.pinned (.plain (OpenSpec.upto batchPartsSpec)) batchPartsUptoCard
end Rows
end Go.Proofs.YtjffajodppnejaaGreatDoor

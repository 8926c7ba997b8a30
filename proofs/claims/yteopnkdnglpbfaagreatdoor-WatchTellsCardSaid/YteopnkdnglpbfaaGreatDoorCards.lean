/-
  DERIVED. GIVEN WITH THE SEED: THE CARDS: each row of YteopnkdnglpbfaaGreatDoorRows.lean that lists a variable, with what it lists TIED to the program's text (the seventh form; the later family's looks); each row that meets fmt, with fmt's text TOLD by the authors' own Lean function (tested against real Go, not proved from fmt's source: count such statements apart). THE CARD IS WHAT COUNTS. Prove the row's statement (the work); the ties are given (YteopnkdnglpbfaaGreatDoorTie.lean); close each card by the builder's one call (the guide's Derived/Test/ToyasCard.lean, 'card_holds'). Laid BY PROGRAM, IN A SANDBOX (cutbox-door.mjs). By AI agents, Wed Nov 11 2026. No macro, syntax, notation, axiom, sorry.
-/
import Derived.Test.YteopnkdnglpbfaaGreatDoorRows
import GoSem.ClaimSeven
namespace Go.Proofs.YteopnkdnglpbfaaGreatDoor
namespace Rows

/-- THE TIED CARD OF 'plimsolllaw37.WatchTells'. -/
def watchTellsCard : Claim7 := { stood := { row := watchTellsRow, standIns := [], harness := (true, "936f509d5c19f3c80e39b330455dca6e5fd49ab458be669eeb18564a6e15a6ab"), looks := false }, kinds := [], alts := [], laidByText := true, laidKinds := [.data, .data], laidTests := true, laidLooks := .later }
def WatchTellsCardSaid : Prop := Claim7.holds Tryz.pinned (.plain (OpenSpec.ofChange watchTellsSpec)) watchTellsCard

/-- THE SECOND FORM's CARD OF 'plimsolllaw37.WatchTells'. -/
def watchTellsUptoCard : Claim7 := { stood := { row := watchTellsUptoRow, standIns := [], harness := (true, "936f509d5c19f3c80e39b330455dca6e5fd49ab458be669eeb18564a6e15a6ab"), looks := false }, kinds := [], alts := [], laidByText := true, laidKinds := [.data, .data], laidTests := true, laidLooks := .later }
def WatchTellsUptoCardSaid : Prop := Claim7.holds Tryz.pinned (.plain (OpenSpec.upto watchTellsSpec)) watchTellsUptoCard
end Rows
end Go.Proofs.YteopnkdnglpbfaaGreatDoor

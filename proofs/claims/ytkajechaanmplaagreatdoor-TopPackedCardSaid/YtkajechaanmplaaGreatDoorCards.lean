/-
  DERIVED. GIVEN WITH THE SEED: THE CARDS: each row of YtkajechaanmplaaGreatDoorRows.lean that lists a variable, with what it lists TIED to the program's text (the seventh form; the later family's looks); each row that meets fmt, with fmt's text TOLD by the authors' own Lean function (tested against real Go, not proved from fmt's source: count such statements apart). THE CARD IS WHAT COUNTS. Prove the row's statement (the work); the ties are given (YtkajechaanmplaaGreatDoorTie.lean); close each card by the builder's one call (the guide's Derived/Test/ToyasCard.lean, 'card_holds'). Laid BY PROGRAM, IN A SANDBOX (cutbox-door.mjs). By AI agents, Wed Nov 11 2026. No macro, syntax, notation, axiom, sorry.
-/
import Derived.Test.YtkajechaanmplaaGreatDoorRows
import GoSem.ClaimSeven
namespace Go.Proofs.YtkajechaanmplaaGreatDoor
namespace Rows

/-- THE TIED CARD OF 'plimsolltop.TopPacked'. -/
def topPackedCard : Claim7 := { stood := { row := topPackedRow, standIns := [], harness := (true, "fc9b30adec6f59817bbe5eb3827c42416038a581e176277633d6639ad475fb51"), looks := false }, kinds := [], alts := [], laidByText := true, laidKinds := [.data, .data, .data], laidTests := true, laidLooks := .later }
def TopPackedCardSaid : Prop := Claim7.holds Tryz.pinned (.plain (OpenSpec.ofChange topPackedSpec)) topPackedCard

/-- THE SECOND FORM's CARD OF 'plimsolltop.TopPacked'. -/
def topPackedUptoCard : Claim7 := { stood := { row := topPackedUptoRow, standIns := [], harness := (true, "fc9b30adec6f59817bbe5eb3827c42416038a581e176277633d6639ad475fb51"), looks := false }, kinds := [], alts := [], laidByText := true, laidKinds := [.data, .data, .data], laidTests := true, laidLooks := .later }
def TopPackedUptoCardSaid : Prop := Claim7.holds Tryz.pinned (.plain (OpenSpec.upto topPackedSpec)) topPackedUptoCard
end Rows
end Go.Proofs.YtkajechaanmplaaGreatDoor

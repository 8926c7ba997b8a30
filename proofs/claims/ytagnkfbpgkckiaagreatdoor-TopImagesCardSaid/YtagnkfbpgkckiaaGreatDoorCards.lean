/-
  DERIVED. GIVEN WITH THE SEED: THE CARDS: each row of YtagnkfbpgkckiaaGreatDoorRows.lean that lists a variable, with what it lists TIED to the program's text (the seventh form; the later family's looks); each row that meets fmt, with fmt's text TOLD by the authors' own Lean function (tested against real Go, not proved from fmt's source: count such statements apart). THE CARD IS WHAT COUNTS. Prove the row's statement (the work); the ties are given (YtagnkfbpgkckiaaGreatDoorTie.lean); close each card by the builder's one call (the guide's Derived/Test/ToyasCard.lean, 'card_holds'). Laid BY PROGRAM, IN A SANDBOX (cutbox-door.mjs). By AI agents, Wed Nov 11 2026. No macro, syntax, notation, axiom, sorry.
-/
import Derived.Test.YtagnkfbpgkckiaaGreatDoorRows
import GoSem.ClaimSeven
namespace Go.Proofs.YtagnkfbpgkckiaaGreatDoor
namespace Rows

/-- THE TIED CARD OF 'plimsolltop.TopGreatest'. -/
def topGreatestCard : Claim7 := { stood := { row := topGreatestRow, standIns := [], harness := (true, "3d9f84fc25d0e5233fa5856619b94ba993e53894d5e37ae3625d309236d615ae"), looks := false }, kinds := [], alts := [], laidByText := true, laidKinds := [.data], laidTests := true, laidLooks := .later }
def TopGreatestCardSaid : Prop := Claim7.holds Tryz.pinned (.plain (OpenSpec.ofChange topGreatestSpec)) topGreatestCard

/-- THE TIED CARD OF 'plimsolltop.TopPatched'. -/
def topPatchedCard : Claim7 := { stood := { row := topPatchedRow, standIns := [], harness := (true, "3d9f84fc25d0e5233fa5856619b94ba993e53894d5e37ae3625d309236d615ae"), looks := false }, kinds := [], alts := [], laidByText := true, laidKinds := [.data], laidTests := true, laidLooks := .later }
def TopPatchedCardSaid : Prop := Claim7.holds Tryz.pinned (.plain (OpenSpec.ofChange topPatchedSpec)) topPatchedCard

/-- THE TIED CARD OF 'plimsolltop.TopImages'. -/
def topImagesCard : Claim7 := { stood := { row := topImagesRow, standIns := [], harness := (true, "3d9f84fc25d0e5233fa5856619b94ba993e53894d5e37ae3625d309236d615ae"), looks := false }, kinds := [], alts := [], laidByText := true, laidKinds := [.data], laidTests := true, laidLooks := .later }
def TopImagesCardSaid : Prop := Claim7.holds Tryz.pinned (.plain (OpenSpec.ofChange topImagesSpec)) topImagesCard

/-- THE SECOND FORM's CARD OF 'plimsolltop.TopGreatest'. -/
def topGreatestUptoCard : Claim7 := { stood := { row := topGreatestUptoRow, standIns := [], harness := (true, "3d9f84fc25d0e5233fa5856619b94ba993e53894d5e37ae3625d309236d615ae"), looks := false }, kinds := [], alts := [], laidByText := true, laidKinds := [.data], laidTests := true, laidLooks := .later }
def TopGreatestUptoCardSaid : Prop := Claim7.holds Tryz.pinned (.plain (OpenSpec.upto topGreatestSpec)) topGreatestUptoCard

/-- THE SECOND FORM's CARD OF 'plimsolltop.TopPatched'. -/
def topPatchedUptoCard : Claim7 := { stood := { row := topPatchedUptoRow, standIns := [], harness := (true, "3d9f84fc25d0e5233fa5856619b94ba993e53894d5e37ae3625d309236d615ae"), looks := false }, kinds := [], alts := [], laidByText := true, laidKinds := [.data], laidTests := true, laidLooks := .later }
def TopPatchedUptoCardSaid : Prop := Claim7.holds Tryz.pinned (.plain (OpenSpec.upto topPatchedSpec)) topPatchedUptoCard

/-- THE SECOND FORM's CARD OF 'plimsolltop.TopImages'. -/
def topImagesUptoCard : Claim7 := { stood := { row := topImagesUptoRow, standIns := [], harness := (true, "3d9f84fc25d0e5233fa5856619b94ba993e53894d5e37ae3625d309236d615ae"), looks := false }, kinds := [], alts := [], laidByText := true, laidKinds := [.data], laidTests := true, laidLooks := .later }
def TopImagesUptoCardSaid : Prop := Claim7.holds Tryz.pinned (.plain (OpenSpec.upto topImagesSpec)) topImagesUptoCard
end Rows
end Go.Proofs.YtagnkfbpgkckiaaGreatDoor

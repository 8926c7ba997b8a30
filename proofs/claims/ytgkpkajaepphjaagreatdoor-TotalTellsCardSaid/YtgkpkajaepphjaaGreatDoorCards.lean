/-
  DERIVED. GIVEN WITH THE SEED: THE CARDS: each row of YtgkpkajaepphjaaGreatDoorRows.lean that lists a variable, with what it lists TIED to the program's text (the seventh form; the later family's looks); each row that meets fmt, with fmt's text TOLD by the authors' own Lean function (tested against real Go, not proved from fmt's source: count such statements apart). THE CARD IS WHAT COUNTS. Prove the row's statement (the work); the ties are given (YtgkpkajaepphjaaGreatDoorTie.lean); close each card by the builder's one call (the guide's Derived/Test/ToyasCard.lean, 'card_holds'). Laid BY PROGRAM, IN A SANDBOX (cutbox-door.mjs). By AI agents, Wed Nov 11 2026. No macro, syntax, notation, axiom, sorry.
-/
import Derived.Test.YtgkpkajaepphjaaGreatDoorRows
import GoSem.ClaimSeven
namespace Go.Proofs.YtgkpkajaepphjaaGreatDoor
namespace Rows

/-- THE TIED CARD OF 'plimsolllaw37.WatchTells'. -/
def watchTellsCard : Claim7 := { stood := { row := watchTellsRow, standIns := [], harness := (true, "ae2e6ebc4d192f74f7ca575f7f08a0095b5c2ca61937199a6128749b9a646c40"), looks := false }, kinds := [], alts := [], laidByText := true, laidKinds := [.data, .data], laidTests := true, laidLooks := .later }
def WatchTellsCardSaid : Prop := Claim7.holds Tryz.pinned (.plain (OpenSpec.ofChange watchTellsSpec)) watchTellsCard

/-- THE TIED CARD OF 'plimsolllaw37.WatchLesser'. -/
def watchLesserCard : Claim7 := { stood := { row := watchLesserRow, standIns := [], harness := (true, "ae2e6ebc4d192f74f7ca575f7f08a0095b5c2ca61937199a6128749b9a646c40"), looks := false }, kinds := [], alts := [], laidByText := true, laidKinds := [.data], laidTests := true, laidLooks := .later }
def WatchLesserCardSaid : Prop := Claim7.holds Tryz.pinned (.plain (OpenSpec.ofChange watchLesserSpec)) watchLesserCard

/-- THE TIED CARD OF 'plimsolllaw37.WatchBack'. -/
def watchBackCard : Claim7 := { stood := { row := watchBackRow, standIns := [], harness := (true, "ae2e6ebc4d192f74f7ca575f7f08a0095b5c2ca61937199a6128749b9a646c40"), looks := false }, kinds := [], alts := [], laidByText := true, laidKinds := [.data], laidTests := true, laidLooks := .later }
def WatchBackCardSaid : Prop := Claim7.holds Tryz.pinned (.plain (OpenSpec.ofChange watchBackSpec)) watchBackCard

/-- THE TIED CARD OF 'plimsolllaw38.HeatTells'. -/
def heatTellsCard : Claim7 := { stood := { row := heatTellsRow, standIns := [], harness := (true, "ae2e6ebc4d192f74f7ca575f7f08a0095b5c2ca61937199a6128749b9a646c40"), looks := false }, kinds := [], alts := [], laidByText := true, laidKinds := [.data], laidTests := true, laidLooks := .later }
def HeatTellsCardSaid : Prop := Claim7.holds Tryz.pinned (.plain (OpenSpec.ofChange heatTellsSpec)) heatTellsCard

/-- THE TIED CARD OF 'plimsolllaw38.HeatSteps'. -/
def heatStepsCard : Claim7 := { stood := { row := heatStepsRow, standIns := [], harness := (true, "ae2e6ebc4d192f74f7ca575f7f08a0095b5c2ca61937199a6128749b9a646c40"), looks := false }, kinds := [], alts := [], laidByText := true, laidKinds := [.data], laidTests := true, laidLooks := .later }
def HeatStepsCardSaid : Prop := Claim7.holds Tryz.pinned (.plain (OpenSpec.ofChange heatStepsSpec)) heatStepsCard

/-- THE TIED CARD OF 'plimsolllaw38.HeatSum'. -/
def heatSumCard : Claim7 := { stood := { row := heatSumRow, standIns := [], harness := (true, "ae2e6ebc4d192f74f7ca575f7f08a0095b5c2ca61937199a6128749b9a646c40"), looks := false }, kinds := [], alts := [], laidByText := true, laidKinds := [.data], laidTests := true, laidLooks := .later }
def HeatSumCardSaid : Prop := Claim7.holds Tryz.pinned (.plain (OpenSpec.ofChange heatSumSpec)) heatSumCard

/-- THE TIED CARD OF 'plimsolllaw38.HeatLevels'. -/
def heatLevelsCard : Claim7 := { stood := { row := heatLevelsRow, standIns := [], harness := (true, "ae2e6ebc4d192f74f7ca575f7f08a0095b5c2ca61937199a6128749b9a646c40"), looks := false }, kinds := [], alts := [], laidByText := true, laidKinds := [.data], laidTests := true, laidLooks := .later }
def HeatLevelsCardSaid : Prop := Claim7.holds Tryz.pinned (.plain (OpenSpec.ofChange heatLevelsSpec)) heatLevelsCard

/-- THE TIED CARD OF 'plimsolllaw23.TotalTells'. -/
def totalTellsCard : Claim7 := { stood := { row := totalTellsRow, standIns := [], harness := (true, "ae2e6ebc4d192f74f7ca575f7f08a0095b5c2ca61937199a6128749b9a646c40"), looks := false }, kinds := [], alts := [], laidByText := true, laidKinds := [.data], laidTests := true, laidLooks := .later }
def TotalTellsCardSaid : Prop := Claim7.holds Tryz.pinned (.plain (OpenSpec.ofChange totalTellsSpec)) totalTellsCard

/-- THE TIED CARD OF 'plimsolllaw23.TotalAdds'. -/
def totalAddsCard : Claim7 := { stood := { row := totalAddsRow, standIns := [], harness := (true, "ae2e6ebc4d192f74f7ca575f7f08a0095b5c2ca61937199a6128749b9a646c40"), looks := false }, kinds := [], alts := [], laidByText := true, laidKinds := [.data], laidTests := true, laidLooks := .later }
def TotalAddsCardSaid : Prop := Claim7.holds Tryz.pinned (.plain (OpenSpec.ofChange totalAddsSpec)) totalAddsCard

/-- THE TIED CARD OF 'plimsolllaw23.TotalParts'. -/
def totalPartsCard : Claim7 := { stood := { row := totalPartsRow, standIns := [], harness := (true, "ae2e6ebc4d192f74f7ca575f7f08a0095b5c2ca61937199a6128749b9a646c40"), looks := false }, kinds := [], alts := [], laidByText := true, laidKinds := [.data], laidTests := true, laidLooks := .later }
def TotalPartsCardSaid : Prop := Claim7.holds Tryz.pinned (.plain (OpenSpec.ofChange totalPartsSpec)) totalPartsCard

/-- THE TIED CARD OF 'plimsolltop.TopCoarser'. -/
def topCoarserCard : Claim7 := { stood := { row := topCoarserRow, standIns := [], harness := (true, "ae2e6ebc4d192f74f7ca575f7f08a0095b5c2ca61937199a6128749b9a646c40"), looks := false }, kinds := [], alts := [], laidByText := true, laidKinds := [.data], laidTests := true, laidLooks := .later }
def TopCoarserCardSaid : Prop := Claim7.holds Tryz.pinned (.plain (OpenSpec.ofChange topCoarserSpec)) topCoarserCard

/-- THE SECOND FORM's CARD OF 'plimsolllaw37.WatchTells'. -/
def watchTellsUptoCard : Claim7 := { stood := { row := watchTellsUptoRow, standIns := [], harness := (true, "ae2e6ebc4d192f74f7ca575f7f08a0095b5c2ca61937199a6128749b9a646c40"), looks := false }, kinds := [], alts := [], laidByText := true, laidKinds := [.data, .data], laidTests := true, laidLooks := .later }
def WatchTellsUptoCardSaid : Prop := Claim7.holds Tryz.pinned (.plain (OpenSpec.upto watchTellsSpec)) watchTellsUptoCard

/-- THE SECOND FORM's CARD OF 'plimsolllaw37.WatchLesser'. -/
def watchLesserUptoCard : Claim7 := { stood := { row := watchLesserUptoRow, standIns := [], harness := (true, "ae2e6ebc4d192f74f7ca575f7f08a0095b5c2ca61937199a6128749b9a646c40"), looks := false }, kinds := [], alts := [], laidByText := true, laidKinds := [.data], laidTests := true, laidLooks := .later }
def WatchLesserUptoCardSaid : Prop := Claim7.holds Tryz.pinned (.plain (OpenSpec.upto watchLesserSpec)) watchLesserUptoCard

/-- THE SECOND FORM's CARD OF 'plimsolllaw37.WatchBack'. -/
def watchBackUptoCard : Claim7 := { stood := { row := watchBackUptoRow, standIns := [], harness := (true, "ae2e6ebc4d192f74f7ca575f7f08a0095b5c2ca61937199a6128749b9a646c40"), looks := false }, kinds := [], alts := [], laidByText := true, laidKinds := [.data], laidTests := true, laidLooks := .later }
def WatchBackUptoCardSaid : Prop := Claim7.holds Tryz.pinned (.plain (OpenSpec.upto watchBackSpec)) watchBackUptoCard

/-- THE SECOND FORM's CARD OF 'plimsolllaw38.HeatTells'. -/
def heatTellsUptoCard : Claim7 := { stood := { row := heatTellsUptoRow, standIns := [], harness := (true, "ae2e6ebc4d192f74f7ca575f7f08a0095b5c2ca61937199a6128749b9a646c40"), looks := false }, kinds := [], alts := [], laidByText := true, laidKinds := [.data], laidTests := true, laidLooks := .later }
def HeatTellsUptoCardSaid : Prop := Claim7.holds Tryz.pinned (.plain (OpenSpec.upto heatTellsSpec)) heatTellsUptoCard

/-- THE SECOND FORM's CARD OF 'plimsolllaw38.HeatSteps'. -/
def heatStepsUptoCard : Claim7 := { stood := { row := heatStepsUptoRow, standIns := [], harness := (true, "ae2e6ebc4d192f74f7ca575f7f08a0095b5c2ca61937199a6128749b9a646c40"), looks := false }, kinds := [], alts := [], laidByText := true, laidKinds := [.data], laidTests := true, laidLooks := .later }
def HeatStepsUptoCardSaid : Prop := Claim7.holds Tryz.pinned (.plain (OpenSpec.upto heatStepsSpec)) heatStepsUptoCard

/-- THE SECOND FORM's CARD OF 'plimsolllaw38.HeatSum'. -/
def heatSumUptoCard : Claim7 := { stood := { row := heatSumUptoRow, standIns := [], harness := (true, "ae2e6ebc4d192f74f7ca575f7f08a0095b5c2ca61937199a6128749b9a646c40"), looks := false }, kinds := [], alts := [], laidByText := true, laidKinds := [.data], laidTests := true, laidLooks := .later }
def HeatSumUptoCardSaid : Prop := Claim7.holds Tryz.pinned (.plain (OpenSpec.upto heatSumSpec)) heatSumUptoCard

/-- THE SECOND FORM's CARD OF 'plimsolllaw38.HeatLevels'. -/
def heatLevelsUptoCard : Claim7 := { stood := { row := heatLevelsUptoRow, standIns := [], harness := (true, "ae2e6ebc4d192f74f7ca575f7f08a0095b5c2ca61937199a6128749b9a646c40"), looks := false }, kinds := [], alts := [], laidByText := true, laidKinds := [.data], laidTests := true, laidLooks := .later }
def HeatLevelsUptoCardSaid : Prop := Claim7.holds Tryz.pinned (.plain (OpenSpec.upto heatLevelsSpec)) heatLevelsUptoCard

/-- THE SECOND FORM's CARD OF 'plimsolllaw23.TotalTells'. -/
def totalTellsUptoCard : Claim7 := { stood := { row := totalTellsUptoRow, standIns := [], harness := (true, "ae2e6ebc4d192f74f7ca575f7f08a0095b5c2ca61937199a6128749b9a646c40"), looks := false }, kinds := [], alts := [], laidByText := true, laidKinds := [.data], laidTests := true, laidLooks := .later }
def TotalTellsUptoCardSaid : Prop := Claim7.holds Tryz.pinned (.plain (OpenSpec.upto totalTellsSpec)) totalTellsUptoCard

/-- THE SECOND FORM's CARD OF 'plimsolllaw23.TotalAdds'. -/
def totalAddsUptoCard : Claim7 := { stood := { row := totalAddsUptoRow, standIns := [], harness := (true, "ae2e6ebc4d192f74f7ca575f7f08a0095b5c2ca61937199a6128749b9a646c40"), looks := false }, kinds := [], alts := [], laidByText := true, laidKinds := [.data], laidTests := true, laidLooks := .later }
def TotalAddsUptoCardSaid : Prop := Claim7.holds Tryz.pinned (.plain (OpenSpec.upto totalAddsSpec)) totalAddsUptoCard

/-- THE SECOND FORM's CARD OF 'plimsolllaw23.TotalParts'. -/
def totalPartsUptoCard : Claim7 := { stood := { row := totalPartsUptoRow, standIns := [], harness := (true, "ae2e6ebc4d192f74f7ca575f7f08a0095b5c2ca61937199a6128749b9a646c40"), looks := false }, kinds := [], alts := [], laidByText := true, laidKinds := [.data], laidTests := true, laidLooks := .later }
def TotalPartsUptoCardSaid : Prop := Claim7.holds Tryz.pinned (.plain (OpenSpec.upto totalPartsSpec)) totalPartsUptoCard

/-- THE SECOND FORM's CARD OF 'plimsolltop.TopCoarser'. -/
def topCoarserUptoCard : Claim7 := { stood := { row := topCoarserUptoRow, standIns := [], harness := (true, "ae2e6ebc4d192f74f7ca575f7f08a0095b5c2ca61937199a6128749b9a646c40"), looks := false }, kinds := [], alts := [], laidByText := true, laidKinds := [.data], laidTests := true, laidLooks := .later }
def TopCoarserUptoCardSaid : Prop := Claim7.holds Tryz.pinned (.plain (OpenSpec.upto topCoarserSpec)) topCoarserUptoCard
end Rows
end Go.Proofs.YtgkpkajaepphjaaGreatDoor

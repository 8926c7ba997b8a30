/-
  DERIVED. GIVEN WITH THE SEED: THE CARDS: each row of YtjeabebacegikaaGreatDoorRows.lean that lists a variable, with what it lists TIED to the program's text (the seventh form; the later family's looks); each row that meets fmt, with fmt's text TOLD by the authors' own Lean function (tested against real Go, not proved from fmt's source: count such statements apart). THE CARD IS WHAT COUNTS. Prove the row's statement (the work); the ties are given (YtjeabebacegikaaGreatDoorTie.lean); close each card by the builder's one call (the guide's Derived/Test/ToyasCard.lean, 'card_holds'). Laid BY PROGRAM, IN A SANDBOX (cutbox-door.mjs). By AI agents, Wed Nov 11 2026. No macro, syntax, notation, axiom, sorry.
-/
import Derived.Test.YtjeabebacegikaaGreatDoorRows
import GoSem.ClaimSeven
namespace Go.Proofs.YtjeabebacegikaaGreatDoor
namespace Rows

/-- THE TIED CARD OF 'plimsolllaw33.StatTells'. -/
def statTellsCard : Claim7 := { stood := { row := statTellsRow, standIns := [], harness := (true, "815b94095973ff7e841a680909d0ff1b4de145e0a9a7d52c2e27fc20ad886f3f"), looks := false }, kinds := [], alts := [], laidByText := true, laidKinds := [.data, .data, .data], laidTests := true, laidLooks := .later }
def StatTellsCardSaid : Prop := Claim7.holds Tryz.pinned (.plain (OpenSpec.ofChange statTellsSpec)) statTellsCard

/-- THE TIED CARD OF 'plimsolllaw33.StatAll'. -/
def statAllCard : Claim7 := { stood := { row := statAllRow, standIns := [], harness := (true, "815b94095973ff7e841a680909d0ff1b4de145e0a9a7d52c2e27fc20ad886f3f"), looks := false }, kinds := [], alts := [], laidByText := true, laidKinds := [.data, .data, .data], laidTests := true, laidLooks := .later }
def StatAllCardSaid : Prop := Claim7.holds Tryz.pinned (.plain (OpenSpec.ofChange statAllSpec)) statAllCard

/-- THE TIED CARD OF 'plimsolllaw22.QueryTells'. -/
def queryTellsCard : Claim7 := { stood := { row := queryTellsRow, standIns := [], harness := (true, "815b94095973ff7e841a680909d0ff1b4de145e0a9a7d52c2e27fc20ad886f3f"), looks := false }, kinds := [], alts := [], laidByText := true, laidKinds := [.data], laidTests := true, laidLooks := .later }
def QueryTellsCardSaid : Prop := Claim7.holds Tryz.pinned (.plain (OpenSpec.ofChange queryTellsSpec)) queryTellsCard

/-- THE TIED CARD OF 'plimsolllaw22.QueryWhole'. -/
def queryWholeCard : Claim7 := { stood := { row := queryWholeRow, standIns := [], harness := (true, "815b94095973ff7e841a680909d0ff1b4de145e0a9a7d52c2e27fc20ad886f3f"), looks := false }, kinds := [], alts := [], laidByText := true, laidKinds := [.data], laidTests := true, laidLooks := .later }
def QueryWholeCardSaid : Prop := Claim7.holds Tryz.pinned (.plain (OpenSpec.ofChange queryWholeSpec)) queryWholeCard

/-- THE TIED CARD OF 'plimsolllaw22.QueryAgree'. -/
def queryAgreeCard : Claim7 := { stood := { row := queryAgreeRow, standIns := [], harness := (true, "815b94095973ff7e841a680909d0ff1b4de145e0a9a7d52c2e27fc20ad886f3f"), looks := false }, kinds := [], alts := [], laidByText := true, laidKinds := [.data], laidTests := true, laidLooks := .later }
def QueryAgreeCardSaid : Prop := Claim7.holds Tryz.pinned (.plain (OpenSpec.ofChange queryAgreeSpec)) queryAgreeCard

/-- THE TIED CARD OF 'plimsolltop.TopAdjoining'. -/
def topAdjoiningCard : Claim7 := { stood := { row := topAdjoiningRow, standIns := [], harness := (true, "815b94095973ff7e841a680909d0ff1b4de145e0a9a7d52c2e27fc20ad886f3f"), looks := false }, kinds := [], alts := [], laidByText := true, laidKinds := [.data], laidTests := true, laidLooks := .later }
def TopAdjoiningCardSaid : Prop := Claim7.holds Tryz.pinned (.plain (OpenSpec.ofChange topAdjoiningSpec)) topAdjoiningCard

/-- THE TIED CARD OF 'plimsolltop.TopEvents'. -/
def topEventsCard : Claim7 := { stood := { row := topEventsRow, standIns := [], harness := (true, "815b94095973ff7e841a680909d0ff1b4de145e0a9a7d52c2e27fc20ad886f3f"), looks := false }, kinds := [], alts := [], laidByText := true, laidKinds := [.data], laidTests := true, laidLooks := .later }
def TopEventsCardSaid : Prop := Claim7.holds Tryz.pinned (.plain (OpenSpec.ofChange topEventsSpec)) topEventsCard

/-- THE TIED CARD OF 'plimsolltop.TopCounted'. -/
def topCountedCard : Claim7 := { stood := { row := topCountedRow, standIns := [], harness := (true, "815b94095973ff7e841a680909d0ff1b4de145e0a9a7d52c2e27fc20ad886f3f"), looks := false }, kinds := [], alts := [], laidByText := true, laidKinds := [.data, .data, .data], laidTests := true, laidLooks := .later }
def TopCountedCardSaid : Prop := Claim7.holds Tryz.pinned (.plain (OpenSpec.ofChange topCountedSpec)) topCountedCard

/-- THE TIED CARD OF 'plimsolltop.TopSwept'. -/
def topSweptCard : Claim7 := { stood := { row := topSweptRow, standIns := [], harness := (true, "815b94095973ff7e841a680909d0ff1b4de145e0a9a7d52c2e27fc20ad886f3f"), looks := false }, kinds := [], alts := [], laidByText := true, laidKinds := [.data], laidTests := true, laidLooks := .later }
def TopSweptCardSaid : Prop := Claim7.holds Tryz.pinned (.plain (OpenSpec.ofChange topSweptSpec)) topSweptCard

/-- THE SECOND FORM's CARD OF 'plimsolllaw33.StatTells'. -/
def statTellsUptoCard : Claim7 := { stood := { row := statTellsUptoRow, standIns := [], harness := (true, "815b94095973ff7e841a680909d0ff1b4de145e0a9a7d52c2e27fc20ad886f3f"), looks := false }, kinds := [], alts := [], laidByText := true, laidKinds := [.data, .data, .data], laidTests := true, laidLooks := .later }
def StatTellsUptoCardSaid : Prop := Claim7.holds Tryz.pinned (.plain (OpenSpec.upto statTellsSpec)) statTellsUptoCard

/-- THE SECOND FORM's CARD OF 'plimsolllaw33.StatAll'. -/
def statAllUptoCard : Claim7 := { stood := { row := statAllUptoRow, standIns := [], harness := (true, "815b94095973ff7e841a680909d0ff1b4de145e0a9a7d52c2e27fc20ad886f3f"), looks := false }, kinds := [], alts := [], laidByText := true, laidKinds := [.data, .data, .data], laidTests := true, laidLooks := .later }
def StatAllUptoCardSaid : Prop := Claim7.holds Tryz.pinned (.plain (OpenSpec.upto statAllSpec)) statAllUptoCard

/-- THE SECOND FORM's CARD OF 'plimsolllaw22.QueryTells'. -/
def queryTellsUptoCard : Claim7 := { stood := { row := queryTellsUptoRow, standIns := [], harness := (true, "815b94095973ff7e841a680909d0ff1b4de145e0a9a7d52c2e27fc20ad886f3f"), looks := false }, kinds := [], alts := [], laidByText := true, laidKinds := [.data], laidTests := true, laidLooks := .later }
def QueryTellsUptoCardSaid : Prop := Claim7.holds Tryz.pinned (.plain (OpenSpec.upto queryTellsSpec)) queryTellsUptoCard

/-- THE SECOND FORM's CARD OF 'plimsolllaw22.QueryWhole'. -/
def queryWholeUptoCard : Claim7 := { stood := { row := queryWholeUptoRow, standIns := [], harness := (true, "815b94095973ff7e841a680909d0ff1b4de145e0a9a7d52c2e27fc20ad886f3f"), looks := false }, kinds := [], alts := [], laidByText := true, laidKinds := [.data], laidTests := true, laidLooks := .later }
def QueryWholeUptoCardSaid : Prop := Claim7.holds Tryz.pinned (.plain (OpenSpec.upto queryWholeSpec)) queryWholeUptoCard

/-- THE SECOND FORM's CARD OF 'plimsolllaw22.QueryAgree'. -/
def queryAgreeUptoCard : Claim7 := { stood := { row := queryAgreeUptoRow, standIns := [], harness := (true, "815b94095973ff7e841a680909d0ff1b4de145e0a9a7d52c2e27fc20ad886f3f"), looks := false }, kinds := [], alts := [], laidByText := true, laidKinds := [.data], laidTests := true, laidLooks := .later }
def QueryAgreeUptoCardSaid : Prop := Claim7.holds Tryz.pinned (.plain (OpenSpec.upto queryAgreeSpec)) queryAgreeUptoCard

/-- THE SECOND FORM's CARD OF 'plimsolltop.TopAdjoining'. -/
def topAdjoiningUptoCard : Claim7 := { stood := { row := topAdjoiningUptoRow, standIns := [], harness := (true, "815b94095973ff7e841a680909d0ff1b4de145e0a9a7d52c2e27fc20ad886f3f"), looks := false }, kinds := [], alts := [], laidByText := true, laidKinds := [.data], laidTests := true, laidLooks := .later }
def TopAdjoiningUptoCardSaid : Prop := Claim7.holds Tryz.pinned (.plain (OpenSpec.upto topAdjoiningSpec)) topAdjoiningUptoCard

/-- THE SECOND FORM's CARD OF 'plimsolltop.TopEvents'. -/
def topEventsUptoCard : Claim7 := { stood := { row := topEventsUptoRow, standIns := [], harness := (true, "815b94095973ff7e841a680909d0ff1b4de145e0a9a7d52c2e27fc20ad886f3f"), looks := false }, kinds := [], alts := [], laidByText := true, laidKinds := [.data], laidTests := true, laidLooks := .later }
def TopEventsUptoCardSaid : Prop := Claim7.holds Tryz.pinned (.plain (OpenSpec.upto topEventsSpec)) topEventsUptoCard

/-- THE SECOND FORM's CARD OF 'plimsolltop.TopCounted'. -/
def topCountedUptoCard : Claim7 := { stood := { row := topCountedUptoRow, standIns := [], harness := (true, "815b94095973ff7e841a680909d0ff1b4de145e0a9a7d52c2e27fc20ad886f3f"), looks := false }, kinds := [], alts := [], laidByText := true, laidKinds := [.data, .data, .data], laidTests := true, laidLooks := .later }
def TopCountedUptoCardSaid : Prop := Claim7.holds Tryz.pinned (.plain (OpenSpec.upto topCountedSpec)) topCountedUptoCard

/-- THE SECOND FORM's CARD OF 'plimsolltop.TopSwept'. -/
def topSweptUptoCard : Claim7 := { stood := { row := topSweptUptoRow, standIns := [], harness := (true, "815b94095973ff7e841a680909d0ff1b4de145e0a9a7d52c2e27fc20ad886f3f"), looks := false }, kinds := [], alts := [], laidByText := true, laidKinds := [.data], laidTests := true, laidLooks := .later }
def TopSweptUptoCardSaid : Prop := Claim7.holds Tryz.pinned (.plain (OpenSpec.upto topSweptSpec)) topSweptUptoCard
end Rows
end Go.Proofs.YtjeabebacegikaaGreatDoor

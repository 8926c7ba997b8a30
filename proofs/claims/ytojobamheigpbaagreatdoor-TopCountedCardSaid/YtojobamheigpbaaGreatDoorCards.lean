/-
  DERIVED. GIVEN WITH THE SEED: THE CARDS: each row of YtojobamheigpbaaGreatDoorRows.lean that lists a variable, with what it lists TIED to the program's text (the seventh form; the later family's looks); each row that meets fmt, with fmt's text TOLD by the authors' own Lean function (tested against real Go, not proved from fmt's source: count such statements apart). THE CARD IS WHAT COUNTS. Prove the row's statement (the work); the ties are given (YtojobamheigpbaaGreatDoorTie.lean); close each card by the builder's one call (the guide's Derived/Test/ToyasCard.lean, 'card_holds'). Laid BY PROGRAM, IN A SANDBOX (cutbox-door.mjs). By AI agents, Wed Nov 11 2026. No macro, syntax, notation, axiom, sorry.
-/
import Derived.Test.YtojobamheigpbaaGreatDoorRows
import GoSem.ClaimSeven
namespace Go.Proofs.YtojobamheigpbaaGreatDoor
namespace Rows

/-- THE TIED CARD OF 'plimsolltop.TopCounted'. -/
def topCountedCard : Claim7 := { stood := { row := topCountedRow, standIns := [], harness := (true, "174ba1c184d5368b188e43b3cabb72dfe0647b04d1cfb926c67944694cc62ef2"), looks := false }, kinds := [], alts := [], laidByText := true, laidKinds := [.data, .data, .data], laidTests := true, laidLooks := .later }
def TopCountedCardSaid : Prop := Claim7.holds Tryz.pinned (.plain (OpenSpec.ofChange topCountedSpec)) topCountedCard

/-- THE TIED CARD OF 'plimsolltop.TopFlat'. -/
def topFlatCard : Claim7 := { stood := { row := topFlatRow, standIns := [], harness := (true, "174ba1c184d5368b188e43b3cabb72dfe0647b04d1cfb926c67944694cc62ef2"), looks := false }, kinds := [], alts := [], laidByText := true, laidKinds := [.data], laidTests := true, laidLooks := .later }
def TopFlatCardSaid : Prop := Claim7.holds Tryz.pinned (.plain (OpenSpec.ofChange topFlatSpec)) topFlatCard

/-- THE TIED CARD OF 'plimsolltop.TopCut'. -/
def topCutCard : Claim7 := { stood := { row := topCutRow, standIns := [], harness := (true, "174ba1c184d5368b188e43b3cabb72dfe0647b04d1cfb926c67944694cc62ef2"), looks := false }, kinds := [], alts := [], laidByText := true, laidKinds := [.data], laidTests := true, laidLooks := .later }
def TopCutCardSaid : Prop := Claim7.holds Tryz.pinned (.plain (OpenSpec.ofChange topCutSpec)) topCutCard

/-- THE TIED CARD OF 'plimsolltop.TopSums'. -/
def topSumsCard : Claim7 := { stood := { row := topSumsRow, standIns := [], harness := (true, "174ba1c184d5368b188e43b3cabb72dfe0647b04d1cfb926c67944694cc62ef2"), looks := false }, kinds := [], alts := [], laidByText := true, laidKinds := [.data], laidTests := true, laidLooks := .later }
def TopSumsCardSaid : Prop := Claim7.holds Tryz.pinned (.plain (OpenSpec.ofChange topSumsSpec)) topSumsCard

/-- THE TIED CARD OF 'plimsolltop.TopAlarm'. -/
def topAlarmCard : Claim7 := { stood := { row := topAlarmRow, standIns := [], harness := (true, "174ba1c184d5368b188e43b3cabb72dfe0647b04d1cfb926c67944694cc62ef2"), looks := false }, kinds := [], alts := [], laidByText := true, laidKinds := [.data], laidTests := true, laidLooks := .later }
def TopAlarmCardSaid : Prop := Claim7.holds Tryz.pinned (.plain (OpenSpec.ofChange topAlarmSpec)) topAlarmCard

/-- THE SECOND FORM's CARD OF 'plimsolltop.TopCounted'. -/
def topCountedUptoCard : Claim7 := { stood := { row := topCountedUptoRow, standIns := [], harness := (true, "174ba1c184d5368b188e43b3cabb72dfe0647b04d1cfb926c67944694cc62ef2"), looks := false }, kinds := [], alts := [], laidByText := true, laidKinds := [.data, .data, .data], laidTests := true, laidLooks := .later }
def TopCountedUptoCardSaid : Prop := Claim7.holds Tryz.pinned (.plain (OpenSpec.upto topCountedSpec)) topCountedUptoCard

/-- THE SECOND FORM's CARD OF 'plimsolltop.TopFlat'. -/
def topFlatUptoCard : Claim7 := { stood := { row := topFlatUptoRow, standIns := [], harness := (true, "174ba1c184d5368b188e43b3cabb72dfe0647b04d1cfb926c67944694cc62ef2"), looks := false }, kinds := [], alts := [], laidByText := true, laidKinds := [.data], laidTests := true, laidLooks := .later }
def TopFlatUptoCardSaid : Prop := Claim7.holds Tryz.pinned (.plain (OpenSpec.upto topFlatSpec)) topFlatUptoCard

/-- THE SECOND FORM's CARD OF 'plimsolltop.TopCut'. -/
def topCutUptoCard : Claim7 := { stood := { row := topCutUptoRow, standIns := [], harness := (true, "174ba1c184d5368b188e43b3cabb72dfe0647b04d1cfb926c67944694cc62ef2"), looks := false }, kinds := [], alts := [], laidByText := true, laidKinds := [.data], laidTests := true, laidLooks := .later }
def TopCutUptoCardSaid : Prop := Claim7.holds Tryz.pinned (.plain (OpenSpec.upto topCutSpec)) topCutUptoCard

/-- THE SECOND FORM's CARD OF 'plimsolltop.TopSums'. -/
def topSumsUptoCard : Claim7 := { stood := { row := topSumsUptoRow, standIns := [], harness := (true, "174ba1c184d5368b188e43b3cabb72dfe0647b04d1cfb926c67944694cc62ef2"), looks := false }, kinds := [], alts := [], laidByText := true, laidKinds := [.data], laidTests := true, laidLooks := .later }
def TopSumsUptoCardSaid : Prop := Claim7.holds Tryz.pinned (.plain (OpenSpec.upto topSumsSpec)) topSumsUptoCard

/-- THE SECOND FORM's CARD OF 'plimsolltop.TopAlarm'. -/
def topAlarmUptoCard : Claim7 := { stood := { row := topAlarmUptoRow, standIns := [], harness := (true, "174ba1c184d5368b188e43b3cabb72dfe0647b04d1cfb926c67944694cc62ef2"), looks := false }, kinds := [], alts := [], laidByText := true, laidKinds := [.data], laidTests := true, laidLooks := .later }
def TopAlarmUptoCardSaid : Prop := Claim7.holds Tryz.pinned (.plain (OpenSpec.upto topAlarmSpec)) topAlarmUptoCard
end Rows
end Go.Proofs.YtojobamheigpbaaGreatDoor

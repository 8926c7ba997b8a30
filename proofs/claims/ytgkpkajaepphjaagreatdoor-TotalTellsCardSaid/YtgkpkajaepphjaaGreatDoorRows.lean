/-
  NARROWER THAN 'FOR EVERY INPUT', by the rows' own cells (each row's printed sentence says how): WatchTells: laid · WatchLesser: laid · WatchBack: laid · HeatTells: laid · HeatSteps: laid · HeatSum: laid · HeatLevels: laid · TotalTells: laid · TotalAdds: laid · TotalParts: laid · TopCoarser: laid.
  DERIVED. THE GIVEN ROWS OF THIS SEAT. 11 by the template 'for every input the law returns true; each argument reads behind the call as it read before'; 0 by the template 'total and deterministic' (their statements: YtgkpkajaepphjaaGreatDoorTotals.lean).
  GIVEN WITH THE SEED: the statements are not yours to turn. If you find one false, say at which input.
  Laid BY PROGRAM, IN A SANDBOX (cutbox-rows.mjs): the forced cells as the released guide's own fill.sh prints them over the translation b24c55ae23ce888c… (all of the seat's roots in one cut). By AI agents, Wed Nov 11 2026. No macro, syntax, notation, axiom, sorry.
-/
import Derived.Test.YtgkpkajaepphjaaGreatDoorChecked
import GoSem.Claim
import GoSem.ClaimJoined
import GoSem.ClaimMapViews
import Derived.JoinedTies
import Derived.KernelRfl
namespace Go.Proofs.YtgkpkajaepphjaaGreatDoor
/- THE CELL 'sum', in the pinned program and in every row, IS THE sha256 OF THE DUMP (.gsa) THAT YtgkpkajaepphjaaGreatDoorProg.lean LOADS. Nothing in Lean hashes anything: it is a label: what it is worth is what the hold of that sum in a sandbox is worth. -/
noncomputable def Tryz.pinned : Pinned := { name := "ytgkpkajaepphjaagreatdoor", sum := "b24c55ae23ce888cf769ece622c03a28b64cf639d0387c0436e25ea40a11c5e7", checked := Tryz.checked }
namespace Rows
def none {H : Type} : Left H := { results := [], args := [] }

/- WHAT THE LISTED PACKAGE-LEVEL VARIABLES READ AS WHEN THE CALL BEGINS. Each datum BY PROGRAM (the guide's laid-datum.mjs) off the statement by which the dump's own 'gosem.cut.vars' lays the variable. In a bare row this is a premise. The card (YtgkpkajaepphjaaGreatDoorCards.lean) ties it to the program's text. -/
def laid_math_bits_deBruijn64tab {H : Type} : DataW H := .agg [.lit (.int .u8 0), .lit (.int .u8 1), .lit (.int .u8 56), .lit (.int .u8 2), .lit (.int .u8 57), .lit (.int .u8 49), .lit (.int .u8 28), .lit (.int .u8 3), .lit (.int .u8 61), .lit (.int .u8 58), .lit (.int .u8 42), .lit (.int .u8 50), .lit (.int .u8 38), .lit (.int .u8 29), .lit (.int .u8 17), .lit (.int .u8 4), .lit (.int .u8 62), .lit (.int .u8 47), .lit (.int .u8 59), .lit (.int .u8 36), .lit (.int .u8 45), .lit (.int .u8 43), .lit (.int .u8 51), .lit (.int .u8 22), .lit (.int .u8 53), .lit (.int .u8 39), .lit (.int .u8 33), .lit (.int .u8 30), .lit (.int .u8 24), .lit (.int .u8 18), .lit (.int .u8 12), .lit (.int .u8 5), .lit (.int .u8 63), .lit (.int .u8 55), .lit (.int .u8 48), .lit (.int .u8 27), .lit (.int .u8 60), .lit (.int .u8 41), .lit (.int .u8 37), .lit (.int .u8 16), .lit (.int .u8 46), .lit (.int .u8 35), .lit (.int .u8 44), .lit (.int .u8 21), .lit (.int .u8 52), .lit (.int .u8 32), .lit (.int .u8 23), .lit (.int .u8 11), .lit (.int .u8 54), .lit (.int .u8 26), .lit (.int .u8 40), .lit (.int .u8 15), .lit (.int .u8 34), .lit (.int .u8 20), .lit (.int .u8 31), .lit (.int .u8 10), .lit (.int .u8 25), .lit (.int .u8 14), .lit (.int .u8 19), .lit (.int .u8 9), .lit (.int .u8 13), .lit (.int .u8 8), .lit (.int .u8 7), .lit (.int .u8 6)]
def laid_plimsoll_plimsollref02_one {H : Type} : DataW H := .agg [.lit (.int .u64 0), .lit (.int .u64 1)]

/-- 'plimsolllaw37.WatchTells': WHATEVER THE INPUT: true; the input reads as it did. -/
def watchTellsSpec : ChangeSpec := { name := "watchTells", fn := fun _ => fun
  | [d1, d2, d3] => { results := [.lit (.bool true)], args := [d1, d2, d3] }
  | _ => none }
def watchTellsRow : OpenClaim := { program := "ytgkpkajaepphjaagreatdoor", sum := "b24c55ae23ce888cf769ece622c03a28b64cf639d0387c0436e25ea40a11c5e7", func := "plimsoll/plimsolllaw37.WatchTells", spec := "watchTells", inPlace := ["math/bits.Add64", "math/bits.Sub64"], unfollowed := true, recurses := true, named := ["math/bits.deBruijn64tab", "plimsoll/plimsollref02.one"], apart := false, laid := [("math/bits.deBruijn64tab", laid_math_bits_deBruijn64tab), ("plimsoll/plimsollref02.one", laid_plimsoll_plimsollref02_one)] }
def WatchTellsSaid : Prop := watchTellsRow.holds Tryz.pinned (OpenSpec.ofChange watchTellsSpec)

/-- ITS FALSE NEIGHBOUR: 'it returns false'. Refute it at one input. -/
def watchTellsWrong : ChangeSpec := { name := "watchTells", fn := fun _ => fun
  | [d1, d2, d3] => { results := [.lit (.bool false)], args := [d1, d2, d3] }
  | _ => none }
def WatchTellsWrongFalsely : Prop := watchTellsRow.holds Tryz.pinned (OpenSpec.ofChange watchTellsWrong)

/-- 'plimsolllaw37.WatchLesser': WHATEVER THE INPUT: true; the input reads as it did. -/
def watchLesserSpec : ChangeSpec := { name := "watchLesser", fn := fun _ => fun
  | [d1, d2, d3, d4] => { results := [.lit (.bool true)], args := [d1, d2, d3, d4] }
  | _ => none }
def watchLesserRow : OpenClaim := { program := "ytgkpkajaepphjaagreatdoor", sum := "b24c55ae23ce888cf769ece622c03a28b64cf639d0387c0436e25ea40a11c5e7", func := "plimsoll/plimsolllaw37.WatchLesser", spec := "watchLesser", inPlace := ["math/bits.Add64", "math/bits.Sub64"], unfollowed := true, recurses := true, named := ["math/bits.deBruijn64tab"], apart := false, laid := [("math/bits.deBruijn64tab", laid_math_bits_deBruijn64tab)] }
def WatchLesserSaid : Prop := watchLesserRow.holds Tryz.pinned (OpenSpec.ofChange watchLesserSpec)

/-- ITS FALSE NEIGHBOUR: 'it returns false'. Refute it at one input. -/
def watchLesserWrong : ChangeSpec := { name := "watchLesser", fn := fun _ => fun
  | [d1, d2, d3, d4] => { results := [.lit (.bool false)], args := [d1, d2, d3, d4] }
  | _ => none }
def WatchLesserWrongFalsely : Prop := watchLesserRow.holds Tryz.pinned (OpenSpec.ofChange watchLesserWrong)

/-- 'plimsolllaw37.WatchBack': WHATEVER THE INPUT: true; the input reads as it did. -/
def watchBackSpec : ChangeSpec := { name := "watchBack", fn := fun _ => fun
  | [d1, d2, d3, d4] => { results := [.lit (.bool true)], args := [d1, d2, d3, d4] }
  | _ => none }
def watchBackRow : OpenClaim := { program := "ytgkpkajaepphjaagreatdoor", sum := "b24c55ae23ce888cf769ece622c03a28b64cf639d0387c0436e25ea40a11c5e7", func := "plimsoll/plimsolllaw37.WatchBack", spec := "watchBack", inPlace := ["math/bits.Add64", "math/bits.Sub64"], unfollowed := true, recurses := true, named := ["math/bits.deBruijn64tab"], apart := false, laid := [("math/bits.deBruijn64tab", laid_math_bits_deBruijn64tab)] }
def WatchBackSaid : Prop := watchBackRow.holds Tryz.pinned (OpenSpec.ofChange watchBackSpec)

/-- ITS FALSE NEIGHBOUR: 'it returns false'. Refute it at one input. -/
def watchBackWrong : ChangeSpec := { name := "watchBack", fn := fun _ => fun
  | [d1, d2, d3, d4] => { results := [.lit (.bool false)], args := [d1, d2, d3, d4] }
  | _ => none }
def WatchBackWrongFalsely : Prop := watchBackRow.holds Tryz.pinned (OpenSpec.ofChange watchBackWrong)

/-- 'plimsolllaw38.HeatTells': WHATEVER THE INPUT: true; the input reads as it did. -/
def heatTellsSpec : ChangeSpec := { name := "heatTells", fn := fun _ => fun
  | [d1, d2] => { results := [.lit (.bool true)], args := [d1, d2] }
  | _ => none }
def heatTellsRow : OpenClaim := { program := "ytgkpkajaepphjaagreatdoor", sum := "b24c55ae23ce888cf769ece622c03a28b64cf639d0387c0436e25ea40a11c5e7", func := "plimsoll/plimsolllaw38.HeatTells", spec := "heatTells", inPlace := ["math/bits.Add64", "math/bits.Sub64"], unfollowed := true, recurses := true, named := ["math/bits.deBruijn64tab"], apart := false, laid := [("math/bits.deBruijn64tab", laid_math_bits_deBruijn64tab)] }
def HeatTellsSaid : Prop := heatTellsRow.holds Tryz.pinned (OpenSpec.ofChange heatTellsSpec)

/-- ITS FALSE NEIGHBOUR: 'it returns false'. Refute it at one input. -/
def heatTellsWrong : ChangeSpec := { name := "heatTells", fn := fun _ => fun
  | [d1, d2] => { results := [.lit (.bool false)], args := [d1, d2] }
  | _ => none }
def HeatTellsWrongFalsely : Prop := heatTellsRow.holds Tryz.pinned (OpenSpec.ofChange heatTellsWrong)

/-- 'plimsolllaw38.HeatSteps': WHATEVER THE INPUT: true; the input reads as it did. -/
def heatStepsSpec : ChangeSpec := { name := "heatSteps", fn := fun _ => fun
  | [d1, d2] => { results := [.lit (.bool true)], args := [d1, d2] }
  | _ => none }
def heatStepsRow : OpenClaim := { program := "ytgkpkajaepphjaagreatdoor", sum := "b24c55ae23ce888cf769ece622c03a28b64cf639d0387c0436e25ea40a11c5e7", func := "plimsoll/plimsolllaw38.HeatSteps", spec := "heatSteps", inPlace := ["math/bits.Add64", "math/bits.Sub64"], unfollowed := true, recurses := true, named := ["math/bits.deBruijn64tab"], apart := false, laid := [("math/bits.deBruijn64tab", laid_math_bits_deBruijn64tab)] }
def HeatStepsSaid : Prop := heatStepsRow.holds Tryz.pinned (OpenSpec.ofChange heatStepsSpec)

/-- ITS FALSE NEIGHBOUR: 'it returns false'. Refute it at one input. -/
def heatStepsWrong : ChangeSpec := { name := "heatSteps", fn := fun _ => fun
  | [d1, d2] => { results := [.lit (.bool false)], args := [d1, d2] }
  | _ => none }
def HeatStepsWrongFalsely : Prop := heatStepsRow.holds Tryz.pinned (OpenSpec.ofChange heatStepsWrong)

/-- 'plimsolllaw38.HeatSum': WHATEVER THE INPUT: true; the input reads as it did. -/
def heatSumSpec : ChangeSpec := { name := "heatSum", fn := fun _ => fun
  | [d1, d2] => { results := [.lit (.bool true)], args := [d1, d2] }
  | _ => none }
def heatSumRow : OpenClaim := { program := "ytgkpkajaepphjaagreatdoor", sum := "b24c55ae23ce888cf769ece622c03a28b64cf639d0387c0436e25ea40a11c5e7", func := "plimsoll/plimsolllaw38.HeatSum", spec := "heatSum", inPlace := ["math/bits.Add64", "math/bits.Sub64"], unfollowed := true, recurses := true, named := ["math/bits.deBruijn64tab"], apart := false, laid := [("math/bits.deBruijn64tab", laid_math_bits_deBruijn64tab)] }
def HeatSumSaid : Prop := heatSumRow.holds Tryz.pinned (OpenSpec.ofChange heatSumSpec)

/-- ITS FALSE NEIGHBOUR: 'it returns false'. Refute it at one input. -/
def heatSumWrong : ChangeSpec := { name := "heatSum", fn := fun _ => fun
  | [d1, d2] => { results := [.lit (.bool false)], args := [d1, d2] }
  | _ => none }
def HeatSumWrongFalsely : Prop := heatSumRow.holds Tryz.pinned (OpenSpec.ofChange heatSumWrong)

/-- 'plimsolllaw38.HeatLevels': WHATEVER THE INPUT: true; the input reads as it did. -/
def heatLevelsSpec : ChangeSpec := { name := "heatLevels", fn := fun _ => fun
  | [d] => { results := [.lit (.bool true)], args := [d] }
  | _ => none }
def heatLevelsRow : OpenClaim := { program := "ytgkpkajaepphjaagreatdoor", sum := "b24c55ae23ce888cf769ece622c03a28b64cf639d0387c0436e25ea40a11c5e7", func := "plimsoll/plimsolllaw38.HeatLevels", spec := "heatLevels", inPlace := ["math/bits.Add64", "math/bits.Sub64"], unfollowed := true, recurses := true, named := ["math/bits.deBruijn64tab"], apart := false, laid := [("math/bits.deBruijn64tab", laid_math_bits_deBruijn64tab)] }
def HeatLevelsSaid : Prop := heatLevelsRow.holds Tryz.pinned (OpenSpec.ofChange heatLevelsSpec)

/-- ITS FALSE NEIGHBOUR: 'it returns false'. Refute it at one input. -/
def heatLevelsWrong : ChangeSpec := { name := "heatLevels", fn := fun _ => fun
  | [d] => { results := [.lit (.bool false)], args := [d] }
  | _ => none }
def HeatLevelsWrongFalsely : Prop := heatLevelsRow.holds Tryz.pinned (OpenSpec.ofChange heatLevelsWrong)

/-- 'plimsolllaw23.TotalTells': WHATEVER THE INPUT: true; the input reads as it did. -/
def totalTellsSpec : ChangeSpec := { name := "totalTells", fn := fun _ => fun
  | [d1, d2, d3, d4, d5, d6] => { results := [.lit (.bool true)], args := [d1, d2, d3, d4, d5, d6] }
  | _ => none }
def totalTellsRow : OpenClaim := { program := "ytgkpkajaepphjaagreatdoor", sum := "b24c55ae23ce888cf769ece622c03a28b64cf639d0387c0436e25ea40a11c5e7", func := "plimsoll/plimsolllaw23.TotalTells", spec := "totalTells", inPlace := ["math/bits.Add64", "math/bits.Sub64"], unfollowed := true, recurses := true, named := ["math/bits.deBruijn64tab"], apart := false, laid := [("math/bits.deBruijn64tab", laid_math_bits_deBruijn64tab)] }
def TotalTellsSaid : Prop := totalTellsRow.holds Tryz.pinned (OpenSpec.ofChange totalTellsSpec)

/-- ITS FALSE NEIGHBOUR: 'it returns false'. Refute it at one input. -/
def totalTellsWrong : ChangeSpec := { name := "totalTells", fn := fun _ => fun
  | [d1, d2, d3, d4, d5, d6] => { results := [.lit (.bool false)], args := [d1, d2, d3, d4, d5, d6] }
  | _ => none }
def TotalTellsWrongFalsely : Prop := totalTellsRow.holds Tryz.pinned (OpenSpec.ofChange totalTellsWrong)

/-- 'plimsolllaw23.TotalAdds': WHATEVER THE INPUT: true; the input reads as it did. -/
def totalAddsSpec : ChangeSpec := { name := "totalAdds", fn := fun _ => fun
  | [d1, d2] => { results := [.lit (.bool true)], args := [d1, d2] }
  | _ => none }
def totalAddsRow : OpenClaim := { program := "ytgkpkajaepphjaagreatdoor", sum := "b24c55ae23ce888cf769ece622c03a28b64cf639d0387c0436e25ea40a11c5e7", func := "plimsoll/plimsolllaw23.TotalAdds", spec := "totalAdds", inPlace := ["math/bits.Add64", "math/bits.Sub64"], unfollowed := true, recurses := true, named := ["math/bits.deBruijn64tab"], apart := false, laid := [("math/bits.deBruijn64tab", laid_math_bits_deBruijn64tab)] }
def TotalAddsSaid : Prop := totalAddsRow.holds Tryz.pinned (OpenSpec.ofChange totalAddsSpec)

/-- ITS FALSE NEIGHBOUR: 'it returns false'. Refute it at one input. -/
def totalAddsWrong : ChangeSpec := { name := "totalAdds", fn := fun _ => fun
  | [d1, d2] => { results := [.lit (.bool false)], args := [d1, d2] }
  | _ => none }
def TotalAddsWrongFalsely : Prop := totalAddsRow.holds Tryz.pinned (OpenSpec.ofChange totalAddsWrong)

/-- 'plimsolllaw23.TotalParts': WHATEVER THE INPUT: true; the input reads as it did. -/
def totalPartsSpec : ChangeSpec := { name := "totalParts", fn := fun _ => fun
  | [d1, d2, d3, d4, d5] => { results := [.lit (.bool true)], args := [d1, d2, d3, d4, d5] }
  | _ => none }
def totalPartsRow : OpenClaim := { program := "ytgkpkajaepphjaagreatdoor", sum := "b24c55ae23ce888cf769ece622c03a28b64cf639d0387c0436e25ea40a11c5e7", func := "plimsoll/plimsolllaw23.TotalParts", spec := "totalParts", inPlace := ["math/bits.Add64", "math/bits.Sub64"], unfollowed := true, recurses := true, named := ["math/bits.deBruijn64tab"], apart := false, laid := [("math/bits.deBruijn64tab", laid_math_bits_deBruijn64tab)] }
def TotalPartsSaid : Prop := totalPartsRow.holds Tryz.pinned (OpenSpec.ofChange totalPartsSpec)

/-- ITS FALSE NEIGHBOUR: 'it returns false'. Refute it at one input. -/
def totalPartsWrong : ChangeSpec := { name := "totalParts", fn := fun _ => fun
  | [d1, d2, d3, d4, d5] => { results := [.lit (.bool false)], args := [d1, d2, d3, d4, d5] }
  | _ => none }
def TotalPartsWrongFalsely : Prop := totalPartsRow.holds Tryz.pinned (OpenSpec.ofChange totalPartsWrong)

/-- 'plimsolltop.TopCoarser': WHATEVER THE INPUT: true; the input reads as it did. -/
def topCoarserSpec : ChangeSpec := { name := "topCoarser", fn := fun _ => fun
  | [d1, d2, d3, d4, d5, d6] => { results := [.lit (.bool true)], args := [d1, d2, d3, d4, d5, d6] }
  | _ => none }
def topCoarserRow : OpenClaim := { program := "ytgkpkajaepphjaagreatdoor", sum := "b24c55ae23ce888cf769ece622c03a28b64cf639d0387c0436e25ea40a11c5e7", func := "plimsoll/plimsolltop.TopCoarser", spec := "topCoarser", inPlace := ["math/bits.Add64", "math/bits.Sub64"], unfollowed := true, recurses := true, named := ["math/bits.deBruijn64tab"], apart := false, laid := [("math/bits.deBruijn64tab", laid_math_bits_deBruijn64tab)] }
def TopCoarserSaid : Prop := topCoarserRow.holds Tryz.pinned (OpenSpec.ofChange topCoarserSpec)

/-- ITS FALSE NEIGHBOUR: 'it returns false'. Refute it at one input. -/
def topCoarserWrong : ChangeSpec := { name := "topCoarser", fn := fun _ => fun
  | [d1, d2, d3, d4, d5, d6] => { results := [.lit (.bool false)], args := [d1, d2, d3, d4, d5, d6] }
  | _ => none }
def TopCoarserWrongFalsely : Prop := topCoarserRow.holds Tryz.pinned (OpenSpec.ofChange topCoarserWrong)

/- THE SECOND FORM. 'bulk': how many values and letters a reading holds, each counted each time it is reached (what is shared counts as often as it is met; a slice's spare places count too). A statement '..UptoSaid' is the law's where the arguments, and the package variables that the reading takes, are together of bulk at most 1048576: NARROWER than '..Said'. Prove '..Said' where nothing that the law and all that it calls make is longer than what came in: it says more and counts as full. Else prove '..UptoSaid'. A law counts once. -/
mutual
def uptoBulk {H : Type} : DataW H → Nat
  | .lit (.string bytes) => bytes.length + 1
  | .lit _ => 1
  | .nil => 1
  | .ptr d => uptoBulk d + 1
  | .slice elems spare => uptoBulkAll elems + uptoBulkAll spare + 1
  | .agg parts => uptoBulkAll parts + 1
  | .iface _ d => uptoBulk d + 1
  | .map entries => uptoBulkEntries entries + 1
  | .held _ => 1
def uptoBulkAll {H : Type} : List (DataW H) → Nat
  | [] => 0
  | d :: r => uptoBulk d + uptoBulkAll r
def uptoBulkEntries {H : Type} : List (Lit × DataW H) → Nat
  | [] => 0
  | x :: r => uptoBulkEntry x + uptoBulkEntries r
def uptoBulkEntry {H : Type} : Lit × DataW H → Nat
  | (.string bytes, d) => bytes.length + uptoBulk d + 1
  | (_, d) => uptoBulk d + 1
 end
def uptoSmall : (H : Type) → List (DataW H) → Bool := fun _ ds => decide (uptoBulkAll ds ≤ 1048576)
def OpenSpec.upto (s : _root_.Go.ChangeSpec) : _root_.Go.OpenSpec := { _root_.Go.OpenSpec.ofChange s with cond := some uptoSmall }

/-- 'plimsolllaw37.WatchTells', WHERE WHAT IT READS IS OF BULK AT MOST 1048576: true; the input reads as it did. -/
def watchTellsUptoRow : OpenClaim := { program := "ytgkpkajaepphjaagreatdoor", sum := "b24c55ae23ce888cf769ece622c03a28b64cf639d0387c0436e25ea40a11c5e7", func := "plimsoll/plimsolllaw37.WatchTells", spec := "watchTells", inPlace := ["math/bits.Add64", "math/bits.Sub64"], unfollowed := true, recurses := true, named := ["math/bits.deBruijn64tab", "plimsoll/plimsollref02.one"], apart := false, laid := [("math/bits.deBruijn64tab", laid_math_bits_deBruijn64tab), ("plimsoll/plimsollref02.one", laid_plimsoll_plimsollref02_one)], narrowed := true }
def WatchTellsUptoSaid : Prop := watchTellsUptoRow.holds Tryz.pinned (OpenSpec.upto watchTellsSpec)

/-- 'plimsolllaw37.WatchLesser', WHERE WHAT IT READS IS OF BULK AT MOST 1048576: true; the input reads as it did. -/
def watchLesserUptoRow : OpenClaim := { program := "ytgkpkajaepphjaagreatdoor", sum := "b24c55ae23ce888cf769ece622c03a28b64cf639d0387c0436e25ea40a11c5e7", func := "plimsoll/plimsolllaw37.WatchLesser", spec := "watchLesser", inPlace := ["math/bits.Add64", "math/bits.Sub64"], unfollowed := true, recurses := true, named := ["math/bits.deBruijn64tab"], apart := false, laid := [("math/bits.deBruijn64tab", laid_math_bits_deBruijn64tab)], narrowed := true }
def WatchLesserUptoSaid : Prop := watchLesserUptoRow.holds Tryz.pinned (OpenSpec.upto watchLesserSpec)

/-- 'plimsolllaw37.WatchBack', WHERE WHAT IT READS IS OF BULK AT MOST 1048576: true; the input reads as it did. -/
def watchBackUptoRow : OpenClaim := { program := "ytgkpkajaepphjaagreatdoor", sum := "b24c55ae23ce888cf769ece622c03a28b64cf639d0387c0436e25ea40a11c5e7", func := "plimsoll/plimsolllaw37.WatchBack", spec := "watchBack", inPlace := ["math/bits.Add64", "math/bits.Sub64"], unfollowed := true, recurses := true, named := ["math/bits.deBruijn64tab"], apart := false, laid := [("math/bits.deBruijn64tab", laid_math_bits_deBruijn64tab)], narrowed := true }
def WatchBackUptoSaid : Prop := watchBackUptoRow.holds Tryz.pinned (OpenSpec.upto watchBackSpec)

/-- 'plimsolllaw38.HeatTells', WHERE WHAT IT READS IS OF BULK AT MOST 1048576: true; the input reads as it did. -/
def heatTellsUptoRow : OpenClaim := { program := "ytgkpkajaepphjaagreatdoor", sum := "b24c55ae23ce888cf769ece622c03a28b64cf639d0387c0436e25ea40a11c5e7", func := "plimsoll/plimsolllaw38.HeatTells", spec := "heatTells", inPlace := ["math/bits.Add64", "math/bits.Sub64"], unfollowed := true, recurses := true, named := ["math/bits.deBruijn64tab"], apart := false, laid := [("math/bits.deBruijn64tab", laid_math_bits_deBruijn64tab)], narrowed := true }
def HeatTellsUptoSaid : Prop := heatTellsUptoRow.holds Tryz.pinned (OpenSpec.upto heatTellsSpec)

/-- 'plimsolllaw38.HeatSteps', WHERE WHAT IT READS IS OF BULK AT MOST 1048576: true; the input reads as it did. -/
def heatStepsUptoRow : OpenClaim := { program := "ytgkpkajaepphjaagreatdoor", sum := "b24c55ae23ce888cf769ece622c03a28b64cf639d0387c0436e25ea40a11c5e7", func := "plimsoll/plimsolllaw38.HeatSteps", spec := "heatSteps", inPlace := ["math/bits.Add64", "math/bits.Sub64"], unfollowed := true, recurses := true, named := ["math/bits.deBruijn64tab"], apart := false, laid := [("math/bits.deBruijn64tab", laid_math_bits_deBruijn64tab)], narrowed := true }
def HeatStepsUptoSaid : Prop := heatStepsUptoRow.holds Tryz.pinned (OpenSpec.upto heatStepsSpec)

/-- 'plimsolllaw38.HeatSum', WHERE WHAT IT READS IS OF BULK AT MOST 1048576: true; the input reads as it did. -/
def heatSumUptoRow : OpenClaim := { program := "ytgkpkajaepphjaagreatdoor", sum := "b24c55ae23ce888cf769ece622c03a28b64cf639d0387c0436e25ea40a11c5e7", func := "plimsoll/plimsolllaw38.HeatSum", spec := "heatSum", inPlace := ["math/bits.Add64", "math/bits.Sub64"], unfollowed := true, recurses := true, named := ["math/bits.deBruijn64tab"], apart := false, laid := [("math/bits.deBruijn64tab", laid_math_bits_deBruijn64tab)], narrowed := true }
def HeatSumUptoSaid : Prop := heatSumUptoRow.holds Tryz.pinned (OpenSpec.upto heatSumSpec)

/-- 'plimsolllaw38.HeatLevels', WHERE WHAT IT READS IS OF BULK AT MOST 1048576: true; the input reads as it did. -/
def heatLevelsUptoRow : OpenClaim := { program := "ytgkpkajaepphjaagreatdoor", sum := "b24c55ae23ce888cf769ece622c03a28b64cf639d0387c0436e25ea40a11c5e7", func := "plimsoll/plimsolllaw38.HeatLevels", spec := "heatLevels", inPlace := ["math/bits.Add64", "math/bits.Sub64"], unfollowed := true, recurses := true, named := ["math/bits.deBruijn64tab"], apart := false, laid := [("math/bits.deBruijn64tab", laid_math_bits_deBruijn64tab)], narrowed := true }
def HeatLevelsUptoSaid : Prop := heatLevelsUptoRow.holds Tryz.pinned (OpenSpec.upto heatLevelsSpec)

/-- 'plimsolllaw23.TotalTells', WHERE WHAT IT READS IS OF BULK AT MOST 1048576: true; the input reads as it did. -/
def totalTellsUptoRow : OpenClaim := { program := "ytgkpkajaepphjaagreatdoor", sum := "b24c55ae23ce888cf769ece622c03a28b64cf639d0387c0436e25ea40a11c5e7", func := "plimsoll/plimsolllaw23.TotalTells", spec := "totalTells", inPlace := ["math/bits.Add64", "math/bits.Sub64"], unfollowed := true, recurses := true, named := ["math/bits.deBruijn64tab"], apart := false, laid := [("math/bits.deBruijn64tab", laid_math_bits_deBruijn64tab)], narrowed := true }
def TotalTellsUptoSaid : Prop := totalTellsUptoRow.holds Tryz.pinned (OpenSpec.upto totalTellsSpec)

/-- 'plimsolllaw23.TotalAdds', WHERE WHAT IT READS IS OF BULK AT MOST 1048576: true; the input reads as it did. -/
def totalAddsUptoRow : OpenClaim := { program := "ytgkpkajaepphjaagreatdoor", sum := "b24c55ae23ce888cf769ece622c03a28b64cf639d0387c0436e25ea40a11c5e7", func := "plimsoll/plimsolllaw23.TotalAdds", spec := "totalAdds", inPlace := ["math/bits.Add64", "math/bits.Sub64"], unfollowed := true, recurses := true, named := ["math/bits.deBruijn64tab"], apart := false, laid := [("math/bits.deBruijn64tab", laid_math_bits_deBruijn64tab)], narrowed := true }
def TotalAddsUptoSaid : Prop := totalAddsUptoRow.holds Tryz.pinned (OpenSpec.upto totalAddsSpec)

/-- 'plimsolllaw23.TotalParts', WHERE WHAT IT READS IS OF BULK AT MOST 1048576: true; the input reads as it did. -/
def totalPartsUptoRow : OpenClaim := { program := "ytgkpkajaepphjaagreatdoor", sum := "b24c55ae23ce888cf769ece622c03a28b64cf639d0387c0436e25ea40a11c5e7", func := "plimsoll/plimsolllaw23.TotalParts", spec := "totalParts", inPlace := ["math/bits.Add64", "math/bits.Sub64"], unfollowed := true, recurses := true, named := ["math/bits.deBruijn64tab"], apart := false, laid := [("math/bits.deBruijn64tab", laid_math_bits_deBruijn64tab)], narrowed := true }
def TotalPartsUptoSaid : Prop := totalPartsUptoRow.holds Tryz.pinned (OpenSpec.upto totalPartsSpec)

/-- 'plimsolltop.TopCoarser', WHERE WHAT IT READS IS OF BULK AT MOST 1048576: true; the input reads as it did. -/
def topCoarserUptoRow : OpenClaim := { program := "ytgkpkajaepphjaagreatdoor", sum := "b24c55ae23ce888cf769ece622c03a28b64cf639d0387c0436e25ea40a11c5e7", func := "plimsoll/plimsolltop.TopCoarser", spec := "topCoarser", inPlace := ["math/bits.Add64", "math/bits.Sub64"], unfollowed := true, recurses := true, named := ["math/bits.deBruijn64tab"], apart := false, laid := [("math/bits.deBruijn64tab", laid_math_bits_deBruijn64tab)], narrowed := true }
def TopCoarserUptoSaid : Prop := topCoarserUptoRow.holds Tryz.pinned (OpenSpec.upto topCoarserSpec)

end Rows
end Go.Proofs.YtgkpkajaepphjaaGreatDoor

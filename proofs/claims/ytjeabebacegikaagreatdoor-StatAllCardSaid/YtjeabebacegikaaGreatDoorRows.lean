/-
  NARROWER THAN 'FOR EVERY INPUT', by the rows' own cells (each row's printed sentence says how): StatTells: laid · StatAll: laid · QueryTells: laid · QueryWhole: laid · QueryAgree: laid · TopAdjoining: laid · TopEvents: laid · TopCounted: laid · TopSwept: laid.
  DERIVED. THE GIVEN ROWS OF THIS SEAT. 9 by the template 'for every input the law returns true; each argument reads behind the call as it read before'; 0 by the template 'total and deterministic' (their statements: YtjeabebacegikaaGreatDoorTotals.lean).
  GIVEN WITH THE SEED: the statements are not yours to turn. If you find one false, say at which input.
  Laid BY PROGRAM, IN A SANDBOX (cutbox-rows.mjs): the forced cells as the released guide's own fill.sh prints them over the translation cf170847aa5b91e0… (all of the seat's roots in one cut). By AI agents, Wed Nov 11 2026. No macro, syntax, notation, axiom, sorry.
-/
import Derived.Test.YtjeabebacegikaaGreatDoorChecked
import GoSem.Claim
import GoSem.ClaimJoined
import GoSem.ClaimMapViews
import Derived.JoinedTies
import Derived.KernelRfl
namespace Go.Proofs.YtjeabebacegikaaGreatDoor
/- THE CELL 'sum', in the pinned program and in every row, IS THE sha256 OF THE DUMP (.gsa) THAT YtjeabebacegikaaGreatDoorProg.lean LOADS. Nothing in Lean hashes anything: it is a label: what it is worth is what the hold of that sum in a sandbox is worth. -/
noncomputable def Tryz.pinned : Pinned := { name := "ytjeabebacegikaagreatdoor", sum := "cf170847aa5b91e04dfce38fbe6be91fd46de59453a067611448b538ce32d217", checked := Tryz.checked }
namespace Rows
def none {H : Type} : Left H := { results := [], args := [] }

/- WHAT THE LISTED PACKAGE-LEVEL VARIABLES READ AS WHEN THE CALL BEGINS. Each datum BY PROGRAM (the guide's laid-datum.mjs) off the statement by which the dump's own 'gosem.cut.vars' lays the variable. In a bare row this is a premise. The card (YtjeabebacegikaaGreatDoorCards.lean) ties it to the program's text. -/
def laid_math_bits_deBruijn32tab {H : Type} : DataW H := .agg [.lit (.int .u8 0), .lit (.int .u8 1), .lit (.int .u8 28), .lit (.int .u8 2), .lit (.int .u8 29), .lit (.int .u8 14), .lit (.int .u8 24), .lit (.int .u8 3), .lit (.int .u8 30), .lit (.int .u8 22), .lit (.int .u8 20), .lit (.int .u8 15), .lit (.int .u8 25), .lit (.int .u8 17), .lit (.int .u8 4), .lit (.int .u8 8), .lit (.int .u8 31), .lit (.int .u8 27), .lit (.int .u8 13), .lit (.int .u8 23), .lit (.int .u8 21), .lit (.int .u8 19), .lit (.int .u8 16), .lit (.int .u8 7), .lit (.int .u8 26), .lit (.int .u8 12), .lit (.int .u8 18), .lit (.int .u8 6), .lit (.int .u8 11), .lit (.int .u8 5), .lit (.int .u8 10), .lit (.int .u8 9)]
def laid_math_bits_deBruijn64tab {H : Type} : DataW H := .agg [.lit (.int .u8 0), .lit (.int .u8 1), .lit (.int .u8 56), .lit (.int .u8 2), .lit (.int .u8 57), .lit (.int .u8 49), .lit (.int .u8 28), .lit (.int .u8 3), .lit (.int .u8 61), .lit (.int .u8 58), .lit (.int .u8 42), .lit (.int .u8 50), .lit (.int .u8 38), .lit (.int .u8 29), .lit (.int .u8 17), .lit (.int .u8 4), .lit (.int .u8 62), .lit (.int .u8 47), .lit (.int .u8 59), .lit (.int .u8 36), .lit (.int .u8 45), .lit (.int .u8 43), .lit (.int .u8 51), .lit (.int .u8 22), .lit (.int .u8 53), .lit (.int .u8 39), .lit (.int .u8 33), .lit (.int .u8 30), .lit (.int .u8 24), .lit (.int .u8 18), .lit (.int .u8 12), .lit (.int .u8 5), .lit (.int .u8 63), .lit (.int .u8 55), .lit (.int .u8 48), .lit (.int .u8 27), .lit (.int .u8 60), .lit (.int .u8 41), .lit (.int .u8 37), .lit (.int .u8 16), .lit (.int .u8 46), .lit (.int .u8 35), .lit (.int .u8 44), .lit (.int .u8 21), .lit (.int .u8 52), .lit (.int .u8 32), .lit (.int .u8 23), .lit (.int .u8 11), .lit (.int .u8 54), .lit (.int .u8 26), .lit (.int .u8 40), .lit (.int .u8 15), .lit (.int .u8 34), .lit (.int .u8 20), .lit (.int .u8 31), .lit (.int .u8 10), .lit (.int .u8 25), .lit (.int .u8 14), .lit (.int .u8 19), .lit (.int .u8 9), .lit (.int .u8 13), .lit (.int .u8 8), .lit (.int .u8 7), .lit (.int .u8 6)]
def laid_internal_strconv_uint64pow10 {H : Type} : DataW H := .agg [.lit (.int .u64 1), .lit (.int .u64 10), .lit (.int .u64 100), .lit (.int .u64 1000), .lit (.int .u64 10000), .lit (.int .u64 100000), .lit (.int .u64 1000000), .lit (.int .u64 10000000), .lit (.int .u64 100000000), .lit (.int .u64 1000000000), .lit (.int .u64 10000000000), .lit (.int .u64 100000000000), .lit (.int .u64 1000000000000), .lit (.int .u64 10000000000000), .lit (.int .u64 100000000000000), .lit (.int .u64 1000000000000000), .lit (.int .u64 10000000000000000), .lit (.int .u64 100000000000000000), .lit (.int .u64 1000000000000000000), .lit (.int .u64 10000000000000000000)]

/-- 'plimsolllaw33.StatTells': WHATEVER THE INPUT: true; the input reads as it did. -/
def statTellsSpec : ChangeSpec := { name := "statTells", fn := fun _ => fun
  | [d1, d2] => { results := [.lit (.bool true)], args := [d1, d2] }
  | _ => none }
def statTellsRow : OpenClaim := { program := "ytjeabebacegikaagreatdoor", sum := "cf170847aa5b91e04dfce38fbe6be91fd46de59453a067611448b538ce32d217", func := "plimsoll/plimsolllaw33.StatTells", spec := "statTells", inPlace := ["math/bits.Add64"], unfollowed := true, recurses := true, named := ["internal/strconv.uint64pow10", "math/bits.deBruijn32tab", "math/bits.deBruijn64tab"], apart := false, laid := [("math/bits.deBruijn32tab", laid_math_bits_deBruijn32tab), ("math/bits.deBruijn64tab", laid_math_bits_deBruijn64tab), ("internal/strconv.uint64pow10", laid_internal_strconv_uint64pow10)] }
def StatTellsSaid : Prop := statTellsRow.holds Tryz.pinned (OpenSpec.ofChange statTellsSpec)

/-- ITS FALSE NEIGHBOUR: 'it returns false'. Refute it at one input. -/
def statTellsWrong : ChangeSpec := { name := "statTells", fn := fun _ => fun
  | [d1, d2] => { results := [.lit (.bool false)], args := [d1, d2] }
  | _ => none }
def StatTellsWrongFalsely : Prop := statTellsRow.holds Tryz.pinned (OpenSpec.ofChange statTellsWrong)

/-- 'plimsolllaw33.StatAll': WHATEVER THE INPUT: true; the input reads as it did. -/
def statAllSpec : ChangeSpec := { name := "statAll", fn := fun _ => fun
  | [d] => { results := [.lit (.bool true)], args := [d] }
  | _ => none }
def statAllRow : OpenClaim := { program := "ytjeabebacegikaagreatdoor", sum := "cf170847aa5b91e04dfce38fbe6be91fd46de59453a067611448b538ce32d217", func := "plimsoll/plimsolllaw33.StatAll", spec := "statAll", inPlace := ["math/bits.Add64"], unfollowed := true, recurses := true, named := ["internal/strconv.uint64pow10", "math/bits.deBruijn32tab", "math/bits.deBruijn64tab"], apart := false, laid := [("math/bits.deBruijn32tab", laid_math_bits_deBruijn32tab), ("math/bits.deBruijn64tab", laid_math_bits_deBruijn64tab), ("internal/strconv.uint64pow10", laid_internal_strconv_uint64pow10)] }
def StatAllSaid : Prop := statAllRow.holds Tryz.pinned (OpenSpec.ofChange statAllSpec)

/-- ITS FALSE NEIGHBOUR: 'it returns false'. Refute it at one input. -/
def statAllWrong : ChangeSpec := { name := "statAll", fn := fun _ => fun
  | [d] => { results := [.lit (.bool false)], args := [d] }
  | _ => none }
def StatAllWrongFalsely : Prop := statAllRow.holds Tryz.pinned (OpenSpec.ofChange statAllWrong)

/-- 'plimsolllaw22.QueryTells': WHATEVER THE INPUT: true; the input reads as it did. -/
def queryTellsSpec : ChangeSpec := { name := "queryTells", fn := fun _ => fun
  | [d1, d2, d3] => { results := [.lit (.bool true)], args := [d1, d2, d3] }
  | _ => none }
def queryTellsRow : OpenClaim := { program := "ytjeabebacegikaagreatdoor", sum := "cf170847aa5b91e04dfce38fbe6be91fd46de59453a067611448b538ce32d217", func := "plimsoll/plimsolllaw22.QueryTells", spec := "queryTells", inPlace := ["math/bits.Add64", "math/bits.Sub64"], unfollowed := true, recurses := true, named := ["math/bits.deBruijn64tab"], apart := false, laid := [("math/bits.deBruijn64tab", laid_math_bits_deBruijn64tab)] }
def QueryTellsSaid : Prop := queryTellsRow.holds Tryz.pinned (OpenSpec.ofChange queryTellsSpec)

/-- ITS FALSE NEIGHBOUR: 'it returns false'. Refute it at one input. -/
def queryTellsWrong : ChangeSpec := { name := "queryTells", fn := fun _ => fun
  | [d1, d2, d3] => { results := [.lit (.bool false)], args := [d1, d2, d3] }
  | _ => none }
def QueryTellsWrongFalsely : Prop := queryTellsRow.holds Tryz.pinned (OpenSpec.ofChange queryTellsWrong)

/-- 'plimsolllaw22.QueryWhole': WHATEVER THE INPUT: true; the input reads as it did. -/
def queryWholeSpec : ChangeSpec := { name := "queryWhole", fn := fun _ => fun
  | [d1, d2] => { results := [.lit (.bool true)], args := [d1, d2] }
  | _ => none }
def queryWholeRow : OpenClaim := { program := "ytjeabebacegikaagreatdoor", sum := "cf170847aa5b91e04dfce38fbe6be91fd46de59453a067611448b538ce32d217", func := "plimsoll/plimsolllaw22.QueryWhole", spec := "queryWhole", inPlace := ["math/bits.Add64", "math/bits.Sub64"], unfollowed := true, recurses := true, named := ["math/bits.deBruijn64tab"], apart := false, laid := [("math/bits.deBruijn64tab", laid_math_bits_deBruijn64tab)] }
def QueryWholeSaid : Prop := queryWholeRow.holds Tryz.pinned (OpenSpec.ofChange queryWholeSpec)

/-- ITS FALSE NEIGHBOUR: 'it returns false'. Refute it at one input. -/
def queryWholeWrong : ChangeSpec := { name := "queryWhole", fn := fun _ => fun
  | [d1, d2] => { results := [.lit (.bool false)], args := [d1, d2] }
  | _ => none }
def QueryWholeWrongFalsely : Prop := queryWholeRow.holds Tryz.pinned (OpenSpec.ofChange queryWholeWrong)

/-- 'plimsolllaw22.QueryAgree': WHATEVER THE INPUT: true; the input reads as it did. -/
def queryAgreeSpec : ChangeSpec := { name := "queryAgree", fn := fun _ => fun
  | [d1, d2, d3] => { results := [.lit (.bool true)], args := [d1, d2, d3] }
  | _ => none }
def queryAgreeRow : OpenClaim := { program := "ytjeabebacegikaagreatdoor", sum := "cf170847aa5b91e04dfce38fbe6be91fd46de59453a067611448b538ce32d217", func := "plimsoll/plimsolllaw22.QueryAgree", spec := "queryAgree", inPlace := ["math/bits.Add64", "math/bits.Sub64"], unfollowed := true, recurses := true, named := ["math/bits.deBruijn64tab"], apart := false, laid := [("math/bits.deBruijn64tab", laid_math_bits_deBruijn64tab)] }
def QueryAgreeSaid : Prop := queryAgreeRow.holds Tryz.pinned (OpenSpec.ofChange queryAgreeSpec)

/-- ITS FALSE NEIGHBOUR: 'it returns false'. Refute it at one input. -/
def queryAgreeWrong : ChangeSpec := { name := "queryAgree", fn := fun _ => fun
  | [d1, d2, d3] => { results := [.lit (.bool false)], args := [d1, d2, d3] }
  | _ => none }
def QueryAgreeWrongFalsely : Prop := queryAgreeRow.holds Tryz.pinned (OpenSpec.ofChange queryAgreeWrong)

/-- 'plimsolltop.TopAdjoining': WHATEVER THE INPUT: true; the input reads as it did. -/
def topAdjoiningSpec : ChangeSpec := { name := "topAdjoining", fn := fun _ => fun
  | [d1, d2, d3] => { results := [.lit (.bool true)], args := [d1, d2, d3] }
  | _ => none }
def topAdjoiningRow : OpenClaim := { program := "ytjeabebacegikaagreatdoor", sum := "cf170847aa5b91e04dfce38fbe6be91fd46de59453a067611448b538ce32d217", func := "plimsoll/plimsolltop.TopAdjoining", spec := "topAdjoining", inPlace := ["math/bits.Add64", "math/bits.Sub64"], unfollowed := true, recurses := true, named := ["math/bits.deBruijn64tab"], apart := false, laid := [("math/bits.deBruijn64tab", laid_math_bits_deBruijn64tab)] }
def TopAdjoiningSaid : Prop := topAdjoiningRow.holds Tryz.pinned (OpenSpec.ofChange topAdjoiningSpec)

/-- ITS FALSE NEIGHBOUR: 'it returns false'. Refute it at one input. -/
def topAdjoiningWrong : ChangeSpec := { name := "topAdjoining", fn := fun _ => fun
  | [d1, d2, d3] => { results := [.lit (.bool false)], args := [d1, d2, d3] }
  | _ => none }
def TopAdjoiningWrongFalsely : Prop := topAdjoiningRow.holds Tryz.pinned (OpenSpec.ofChange topAdjoiningWrong)

/-- 'plimsolltop.TopEvents': WHATEVER THE INPUT: true; the input reads as it did. -/
def topEventsSpec : ChangeSpec := { name := "topEvents", fn := fun _ => fun
  | [d1, d2, d3] => { results := [.lit (.bool true)], args := [d1, d2, d3] }
  | _ => none }
def topEventsRow : OpenClaim := { program := "ytjeabebacegikaagreatdoor", sum := "cf170847aa5b91e04dfce38fbe6be91fd46de59453a067611448b538ce32d217", func := "plimsoll/plimsolltop.TopEvents", spec := "topEvents", inPlace := ["math/bits.Add64", "math/bits.Sub64"], unfollowed := true, recurses := true, named := ["math/bits.deBruijn64tab"], apart := false, laid := [("math/bits.deBruijn64tab", laid_math_bits_deBruijn64tab)] }
def TopEventsSaid : Prop := topEventsRow.holds Tryz.pinned (OpenSpec.ofChange topEventsSpec)

/-- ITS FALSE NEIGHBOUR: 'it returns false'. Refute it at one input. -/
def topEventsWrong : ChangeSpec := { name := "topEvents", fn := fun _ => fun
  | [d1, d2, d3] => { results := [.lit (.bool false)], args := [d1, d2, d3] }
  | _ => none }
def TopEventsWrongFalsely : Prop := topEventsRow.holds Tryz.pinned (OpenSpec.ofChange topEventsWrong)

/-- 'plimsolltop.TopCounted': WHATEVER THE INPUT: true; the input reads as it did. -/
def topCountedSpec : ChangeSpec := { name := "topCounted", fn := fun _ => fun
  | [d1, d2] => { results := [.lit (.bool true)], args := [d1, d2] }
  | _ => none }
def topCountedRow : OpenClaim := { program := "ytjeabebacegikaagreatdoor", sum := "cf170847aa5b91e04dfce38fbe6be91fd46de59453a067611448b538ce32d217", func := "plimsoll/plimsolltop.TopCounted", spec := "topCounted", inPlace := ["math/bits.Add64", "internal/abi.NoEscape"], unfollowed := true, recurses := true, named := ["internal/strconv.uint64pow10", "math/bits.deBruijn32tab", "math/bits.deBruijn64tab"], apart := false, laid := [("math/bits.deBruijn32tab", laid_math_bits_deBruijn32tab), ("math/bits.deBruijn64tab", laid_math_bits_deBruijn64tab), ("internal/strconv.uint64pow10", laid_internal_strconv_uint64pow10)] }
def TopCountedSaid : Prop := topCountedRow.holds Tryz.pinned (OpenSpec.ofChange topCountedSpec)

/-- ITS FALSE NEIGHBOUR: 'it returns false'. Refute it at one input. -/
def topCountedWrong : ChangeSpec := { name := "topCounted", fn := fun _ => fun
  | [d1, d2] => { results := [.lit (.bool false)], args := [d1, d2] }
  | _ => none }
def TopCountedWrongFalsely : Prop := topCountedRow.holds Tryz.pinned (OpenSpec.ofChange topCountedWrong)

/-- 'plimsolltop.TopSwept': WHATEVER THE INPUT: true; the input reads as it did. -/
def topSweptSpec : ChangeSpec := { name := "topSwept", fn := fun _ => fun
  | [d1, d2, d3] => { results := [.lit (.bool true)], args := [d1, d2, d3] }
  | _ => none }
def topSweptRow : OpenClaim := { program := "ytjeabebacegikaagreatdoor", sum := "cf170847aa5b91e04dfce38fbe6be91fd46de59453a067611448b538ce32d217", func := "plimsoll/plimsolltop.TopSwept", spec := "topSwept", inPlace := ["math/bits.Add64", "math/bits.Sub64"], unfollowed := true, recurses := true, named := ["math/bits.deBruijn64tab"], apart := false, laid := [("math/bits.deBruijn64tab", laid_math_bits_deBruijn64tab)] }
def TopSweptSaid : Prop := topSweptRow.holds Tryz.pinned (OpenSpec.ofChange topSweptSpec)

/-- ITS FALSE NEIGHBOUR: 'it returns false'. Refute it at one input. -/
def topSweptWrong : ChangeSpec := { name := "topSwept", fn := fun _ => fun
  | [d1, d2, d3] => { results := [.lit (.bool false)], args := [d1, d2, d3] }
  | _ => none }
def TopSweptWrongFalsely : Prop := topSweptRow.holds Tryz.pinned (OpenSpec.ofChange topSweptWrong)

/- THE SECOND FORM. 'bulk': how many values and letters a reading holds, each counted each time it is reached (what is shared counts as often as it is met; a slice's spare places count too). A statement '..UptoSaid' is the law's where the arguments, and the package variables that the reading takes, are together of bulk at most 1048576: NARROWER than '..Said'. Prove '..Said' where nothing that the law and all that it calls make is longer than what came in: it says more and counts as full. Else prove '..UptoSaid'. A law counts once. -/
mutual
def uptoBulk {H : Type} : DataW H → Nat
  | .lit (.string bytes) => bytes.length + 1
  | .lit _ => 1
  | .nil => 1
  | .ptr d => uptoBulk d + 1
  | .slice elems spare => uptoBulkAll elems + uptoBulkAll spare + 1
  | .agg parts => uptoBulkAll parts + 1
  | .iface _ d => uptoBulk d + 1
  | .map entries => uptoBulkEntries entries + 1
  | .held _ => 1
def uptoBulkAll {H : Type} : List (DataW H) → Nat
  | [] => 0
  | d :: r => uptoBulk d + uptoBulkAll r
def uptoBulkEntries {H : Type} : List (Lit × DataW H) → Nat
  | [] => 0
  | x :: r => uptoBulkEntry x + uptoBulkEntries r
def uptoBulkEntry {H : Type} : Lit × DataW H → Nat
  | (.string bytes, d) => bytes.length + uptoBulk d + 1
  | (_, d) => uptoBulk d + 1
 end
def uptoSmall : (H : Type) → List (DataW H) → Bool := fun _ ds => decide (uptoBulkAll ds ≤ 1048576)
def OpenSpec.upto (s : _root_.Go.ChangeSpec) : _root_.Go.OpenSpec := { _root_.Go.OpenSpec.ofChange s with cond := some uptoSmall }

/-- 'plimsolllaw33.StatTells', WHERE WHAT IT READS IS OF BULK AT MOST 1048576: true; the input reads as it did. -/
def statTellsUptoRow : OpenClaim := { program := "ytjeabebacegikaagreatdoor", sum := "cf170847aa5b91e04dfce38fbe6be91fd46de59453a067611448b538ce32d217", func := "plimsoll/plimsolllaw33.StatTells", spec := "statTells", inPlace := ["math/bits.Add64"], unfollowed := true, recurses := true, named := ["internal/strconv.uint64pow10", "math/bits.deBruijn32tab", "math/bits.deBruijn64tab"], apart := false, laid := [("math/bits.deBruijn32tab", laid_math_bits_deBruijn32tab), ("math/bits.deBruijn64tab", laid_math_bits_deBruijn64tab), ("internal/strconv.uint64pow10", laid_internal_strconv_uint64pow10)], narrowed := true }
def StatTellsUptoSaid : Prop := statTellsUptoRow.holds Tryz.pinned (OpenSpec.upto statTellsSpec)

/-- 'plimsolllaw33.StatAll', WHERE WHAT IT READS IS OF BULK AT MOST 1048576: true; the input reads as it did. -/
def statAllUptoRow : OpenClaim := { program := "ytjeabebacegikaagreatdoor", sum := "cf170847aa5b91e04dfce38fbe6be91fd46de59453a067611448b538ce32d217", func := "plimsoll/plimsolllaw33.StatAll", spec := "statAll", inPlace := ["math/bits.Add64"], unfollowed := true, recurses := true, named := ["internal/strconv.uint64pow10", "math/bits.deBruijn32tab", "math/bits.deBruijn64tab"], apart := false, laid := [("math/bits.deBruijn32tab", laid_math_bits_deBruijn32tab), ("math/bits.deBruijn64tab", laid_math_bits_deBruijn64tab), ("internal/strconv.uint64pow10", laid_internal_strconv_uint64pow10)], narrowed := true }
def StatAllUptoSaid : Prop := statAllUptoRow.holds Tryz.pinned (OpenSpec.upto statAllSpec)

/-- 'plimsolllaw22.QueryTells', WHERE WHAT IT READS IS OF BULK AT MOST 1048576: true; the input reads as it did. -/
def queryTellsUptoRow : OpenClaim := { program := "ytjeabebacegikaagreatdoor", sum := "cf170847aa5b91e04dfce38fbe6be91fd46de59453a067611448b538ce32d217", func := "plimsoll/plimsolllaw22.QueryTells", spec := "queryTells", inPlace := ["math/bits.Add64", "math/bits.Sub64"], unfollowed := true, recurses := true, named := ["math/bits.deBruijn64tab"], apart := false, laid := [("math/bits.deBruijn64tab", laid_math_bits_deBruijn64tab)], narrowed := true }
def QueryTellsUptoSaid : Prop := queryTellsUptoRow.holds Tryz.pinned (OpenSpec.upto queryTellsSpec)

/-- 'plimsolllaw22.QueryWhole', WHERE WHAT IT READS IS OF BULK AT MOST 1048576: true; the input reads as it did. -/
def queryWholeUptoRow : OpenClaim := { program := "ytjeabebacegikaagreatdoor", sum := "cf170847aa5b91e04dfce38fbe6be91fd46de59453a067611448b538ce32d217", func := "plimsoll/plimsolllaw22.QueryWhole", spec := "queryWhole", inPlace := ["math/bits.Add64", "math/bits.Sub64"], unfollowed := true, recurses := true, named := ["math/bits.deBruijn64tab"], apart := false, laid := [("math/bits.deBruijn64tab", laid_math_bits_deBruijn64tab)], narrowed := true }
def QueryWholeUptoSaid : Prop := queryWholeUptoRow.holds Tryz.pinned (OpenSpec.upto queryWholeSpec)

/-- 'plimsolllaw22.QueryAgree', WHERE WHAT IT READS IS OF BULK AT MOST 1048576: true; the input reads as it did. -/
def queryAgreeUptoRow : OpenClaim := { program := "ytjeabebacegikaagreatdoor", sum := "cf170847aa5b91e04dfce38fbe6be91fd46de59453a067611448b538ce32d217", func := "plimsoll/plimsolllaw22.QueryAgree", spec := "queryAgree", inPlace := ["math/bits.Add64", "math/bits.Sub64"], unfollowed := true, recurses := true, named := ["math/bits.deBruijn64tab"], apart := false, laid := [("math/bits.deBruijn64tab", laid_math_bits_deBruijn64tab)], narrowed := true }
def QueryAgreeUptoSaid : Prop := queryAgreeUptoRow.holds Tryz.pinned (OpenSpec.upto queryAgreeSpec)

/-- 'plimsolltop.TopAdjoining', WHERE WHAT IT READS IS OF BULK AT MOST 1048576: true; the input reads as it did. -/
def topAdjoiningUptoRow : OpenClaim := { program := "ytjeabebacegikaagreatdoor", sum := "cf170847aa5b91e04dfce38fbe6be91fd46de59453a067611448b538ce32d217", func := "plimsoll/plimsolltop.TopAdjoining", spec := "topAdjoining", inPlace := ["math/bits.Add64", "math/bits.Sub64"], unfollowed := true, recurses := true, named := ["math/bits.deBruijn64tab"], apart := false, laid := [("math/bits.deBruijn64tab", laid_math_bits_deBruijn64tab)], narrowed := true }
def TopAdjoiningUptoSaid : Prop := topAdjoiningUptoRow.holds Tryz.pinned (OpenSpec.upto topAdjoiningSpec)

/-- 'plimsolltop.TopEvents', WHERE WHAT IT READS IS OF BULK AT MOST 1048576: true; the input reads as it did. -/
def topEventsUptoRow : OpenClaim := { program := "ytjeabebacegikaagreatdoor", sum := "cf170847aa5b91e04dfce38fbe6be91fd46de59453a067611448b538ce32d217", func := "plimsoll/plimsolltop.TopEvents", spec := "topEvents", inPlace := ["math/bits.Add64", "math/bits.Sub64"], unfollowed := true, recurses := true, named := ["math/bits.deBruijn64tab"], apart := false, laid := [("math/bits.deBruijn64tab", laid_math_bits_deBruijn64tab)], narrowed := true }
def TopEventsUptoSaid : Prop := topEventsUptoRow.holds Tryz.pinned (OpenSpec.upto topEventsSpec)

/-- 'plimsolltop.TopCounted', WHERE WHAT IT READS IS OF BULK AT MOST 1048576: true; the input reads as it did. -/
def topCountedUptoRow : OpenClaim := { program := "ytjeabebacegikaagreatdoor", sum := "cf170847aa5b91e04dfce38fbe6be91fd46de59453a067611448b538ce32d217", func := "plimsoll/plimsolltop.TopCounted", spec := "topCounted", inPlace := ["math/bits.Add64", "internal/abi.NoEscape"], unfollowed := true, recurses := true, named := ["internal/strconv.uint64pow10", "math/bits.deBruijn32tab", "math/bits.deBruijn64tab"], apart := false, laid := [("math/bits.deBruijn32tab", laid_math_bits_deBruijn32tab), ("math/bits.deBruijn64tab", laid_math_bits_deBruijn64tab), ("internal/strconv.uint64pow10", laid_internal_strconv_uint64pow10)], narrowed := true }
def TopCountedUptoSaid : Prop := topCountedUptoRow.holds Tryz.pinned (OpenSpec.upto topCountedSpec)

/-- 'plimsolltop.TopSwept', WHERE WHAT IT READS IS OF BULK AT MOST 1048576: true; the input reads as it did. -/
def topSweptUptoRow : OpenClaim := { program := "ytjeabebacegikaagreatdoor", sum := "cf170847aa5b91e04dfce38fbe6be91fd46de59453a067611448b538ce32d217", func := "plimsoll/plimsolltop.TopSwept", spec := "topSwept", inPlace := ["math/bits.Add64", "math/bits.Sub64"], unfollowed := true, recurses := true, named := ["math/bits.deBruijn64tab"], apart := false, laid := [("math/bits.deBruijn64tab", laid_math_bits_deBruijn64tab)], narrowed := true }
def TopSweptUptoSaid : Prop := topSweptUptoRow.holds Tryz.pinned (OpenSpec.upto topSweptSpec)

end Rows
end Go.Proofs.YtjeabebacegikaaGreatDoor

/-
  No cell of these rows narrows 'for every input' (looked for: loops, veiled, ifaces, maps, wideKeys, modest, calm, conditions, laid).
  DERIVED. THE GIVEN ROWS OF THIS SEAT. 10 by the template 'for every input the law returns true; each argument reads behind the call as it read before'; 0 by the template 'total and deterministic' (their statements: YthjnbidgliejkaaGreatTotals.lean).
  GIVEN WITH THE SEED: the statements are not yours to turn. If you find one false, say at which input.
  Laid BY PROGRAM, IN A SANDBOX (cutbox-rows.mjs): the forced cells as the released guide's own fill.sh prints them over the translation 33e7686aab38b853… (all of the seat's roots in one cut). By AI agents, Wed Nov 11 2026. No macro, syntax, notation, axiom, sorry.
-/
import Derived.Test.YthjnbidgliejkaaGreatChecked
import GoSem.Claim
import GoSem.ClaimJoined
import GoSem.ClaimMapViews
import Derived.JoinedTies
import Derived.KernelRfl
namespace Go.Proofs.YthjnbidgliejkaaGreat
/- THE CELL 'sum', in the pinned program and in every row, IS THE sha256 OF THE DUMP (.gsa) THAT YthjnbidgliejkaaGreatProg.lean LOADS. Nothing in Lean hashes anything: it is a label: what it is worth is what the hold of that sum in a sandbox is worth. -/
noncomputable def Tryz.pinned : Pinned := { name := "ythjnbidgliejkaagreat", sum := "33e7686aab38b8534aa2c95fa2a95d2451f378bfea9ba68d32622baa7f27b72e", checked := Tryz.checked }
namespace Rows
def none {H : Type} : Left H := { results := [], args := [] }

/-- 'plimsolllaw17.StateTells': WHATEVER THE INPUT: true; the input reads as it did. -/
def stateTellsSpec : ChangeSpec := { name := "stateTells", fn := fun _ => fun
  | [d1, d2, d3, d4] => { results := [.lit (.bool true)], args := [d1, d2, d3, d4] }
  | _ => none }
def stateTellsRow : OpenClaim := { program := "ythjnbidgliejkaagreat", sum := "33e7686aab38b8534aa2c95fa2a95d2451f378bfea9ba68d32622baa7f27b72e", func := "plimsoll/plimsolllaw17.StateTells", spec := "stateTells", inPlace := ["math/bits.Add64"], unfollowed := true, recurses := true, apart := false }
def StateTellsSaid : Prop := stateTellsRow.holds Tryz.pinned (OpenSpec.ofChange stateTellsSpec)

/-- ITS FALSE NEIGHBOUR: 'it returns false'. Refute it at one input. -/
def stateTellsWrong : ChangeSpec := { name := "stateTells", fn := fun _ => fun
  | [d1, d2, d3, d4] => { results := [.lit (.bool false)], args := [d1, d2, d3, d4] }
  | _ => none }
def StateTellsWrongFalsely : Prop := stateTellsRow.holds Tryz.pinned (OpenSpec.ofChange stateTellsWrong)

/-- 'plimsolllaw17.StateNew': WHATEVER THE INPUT: true; the input reads as it did. -/
def stateNewSpec : ChangeSpec := { name := "stateNew", fn := fun _ => fun
  | [d] => { results := [.lit (.bool true)], args := [d] }
  | _ => none }
def stateNewRow : OpenClaim := { program := "ythjnbidgliejkaagreat", sum := "33e7686aab38b8534aa2c95fa2a95d2451f378bfea9ba68d32622baa7f27b72e", func := "plimsoll/plimsolllaw17.StateNew", spec := "stateNew", inPlace := ["math/bits.Add64"], unfollowed := true, recurses := true, apart := false }
def StateNewSaid : Prop := stateNewRow.holds Tryz.pinned (OpenSpec.ofChange stateNewSpec)

/-- ITS FALSE NEIGHBOUR: 'it returns false'. Refute it at one input. -/
def stateNewWrong : ChangeSpec := { name := "stateNew", fn := fun _ => fun
  | [d] => { results := [.lit (.bool false)], args := [d] }
  | _ => none }
def StateNewWrongFalsely : Prop := stateNewRow.holds Tryz.pinned (OpenSpec.ofChange stateNewWrong)

/-- 'plimsolltop.TopTurns': WHATEVER THE INPUT: true; the input reads as it did. -/
def topTurnsSpec : ChangeSpec := { name := "topTurns", fn := fun _ => fun
  | [d1, d2, d3, d4, d5] => { results := [.lit (.bool true)], args := [d1, d2, d3, d4, d5] }
  | _ => none }
def topTurnsRow : OpenClaim := { program := "ythjnbidgliejkaagreat", sum := "33e7686aab38b8534aa2c95fa2a95d2451f378bfea9ba68d32622baa7f27b72e", func := "plimsoll/plimsolltop.TopTurns", spec := "topTurns", inPlace := ["math/bits.Add64"], unfollowed := true, recurses := true, apart := false }
def TopTurnsSaid : Prop := topTurnsRow.holds Tryz.pinned (OpenSpec.ofChange topTurnsSpec)

/-- ITS FALSE NEIGHBOUR: 'it returns false'. Refute it at one input. -/
def topTurnsWrong : ChangeSpec := { name := "topTurns", fn := fun _ => fun
  | [d1, d2, d3, d4, d5] => { results := [.lit (.bool false)], args := [d1, d2, d3, d4, d5] }
  | _ => none }
def TopTurnsWrongFalsely : Prop := topTurnsRow.holds Tryz.pinned (OpenSpec.ofChange topTurnsWrong)

/-- 'plimsolllaw17.StateMany': WHATEVER THE INPUT: true; the input reads as it did. -/
def stateManySpec : ChangeSpec := { name := "stateMany", fn := fun _ => fun
  | [d1, d2] => { results := [.lit (.bool true)], args := [d1, d2] }
  | _ => none }
def stateManyRow : OpenClaim := { program := "ythjnbidgliejkaagreat", sum := "33e7686aab38b8534aa2c95fa2a95d2451f378bfea9ba68d32622baa7f27b72e", func := "plimsoll/plimsolllaw17.StateMany", spec := "stateMany", inPlace := ["math/bits.Add64"], unfollowed := true, recurses := true, apart := false }
def StateManySaid : Prop := stateManyRow.holds Tryz.pinned (OpenSpec.ofChange stateManySpec)

/-- ITS FALSE NEIGHBOUR: 'it returns false'. Refute it at one input. -/
def stateManyWrong : ChangeSpec := { name := "stateMany", fn := fun _ => fun
  | [d1, d2] => { results := [.lit (.bool false)], args := [d1, d2] }
  | _ => none }
def StateManyWrongFalsely : Prop := stateManyRow.holds Tryz.pinned (OpenSpec.ofChange stateManyWrong)

/-- 'plimsolllaw19.WriteOne': WHATEVER THE INPUT: true; the input reads as it did. -/
def writeOneSpec : ChangeSpec := { name := "writeOne", fn := fun _ => fun
  | [d1, d2, d3] => { results := [.lit (.bool true)], args := [d1, d2, d3] }
  | _ => none }
def writeOneRow : OpenClaim := { program := "ythjnbidgliejkaagreat", sum := "33e7686aab38b8534aa2c95fa2a95d2451f378bfea9ba68d32622baa7f27b72e", func := "plimsoll/plimsolllaw19.WriteOne", spec := "writeOne", inPlace := ["math/bits.Add64"], unfollowed := true, recurses := true, apart := false }
def WriteOneSaid : Prop := writeOneRow.holds Tryz.pinned (OpenSpec.ofChange writeOneSpec)

/-- ITS FALSE NEIGHBOUR: 'it returns false'. Refute it at one input. -/
def writeOneWrong : ChangeSpec := { name := "writeOne", fn := fun _ => fun
  | [d1, d2, d3] => { results := [.lit (.bool false)], args := [d1, d2, d3] }
  | _ => none }
def WriteOneWrongFalsely : Prop := writeOneRow.holds Tryz.pinned (OpenSpec.ofChange writeOneWrong)

/-- 'plimsolllaw20.CascadeBack': WHATEVER THE INPUT: true; the input reads as it did. -/
def cascadeBackSpec : ChangeSpec := { name := "cascadeBack", fn := fun _ => fun
  | [d1, d2, d3, d4, d5] => { results := [.lit (.bool true)], args := [d1, d2, d3, d4, d5] }
  | _ => none }
def cascadeBackRow : OpenClaim := { program := "ythjnbidgliejkaagreat", sum := "33e7686aab38b8534aa2c95fa2a95d2451f378bfea9ba68d32622baa7f27b72e", func := "plimsoll/plimsolllaw20.CascadeBack", spec := "cascadeBack", inPlace := ["math/bits.Add64"], unfollowed := true, recurses := true, apart := false }
def CascadeBackSaid : Prop := cascadeBackRow.holds Tryz.pinned (OpenSpec.ofChange cascadeBackSpec)

/-- ITS FALSE NEIGHBOUR: 'it returns false'. Refute it at one input. -/
def cascadeBackWrong : ChangeSpec := { name := "cascadeBack", fn := fun _ => fun
  | [d1, d2, d3, d4, d5] => { results := [.lit (.bool false)], args := [d1, d2, d3, d4, d5] }
  | _ => none }
def CascadeBackWrongFalsely : Prop := cascadeBackRow.holds Tryz.pinned (OpenSpec.ofChange cascadeBackWrong)

/-- 'plimsolllaw21.SweepTells': WHATEVER THE INPUT: true; the input reads as it did. -/
def sweepTellsSpec : ChangeSpec := { name := "sweepTells", fn := fun _ => fun
  | [d] => { results := [.lit (.bool true)], args := [d] }
  | _ => none }
def sweepTellsRow : OpenClaim := { program := "ythjnbidgliejkaagreat", sum := "33e7686aab38b8534aa2c95fa2a95d2451f378bfea9ba68d32622baa7f27b72e", func := "plimsoll/plimsolllaw21.SweepTells", spec := "sweepTells", inPlace := ["math/bits.Add64"], unfollowed := true, recurses := true, apart := false }
def SweepTellsSaid : Prop := sweepTellsRow.holds Tryz.pinned (OpenSpec.ofChange sweepTellsSpec)

/-- ITS FALSE NEIGHBOUR: 'it returns false'. Refute it at one input. -/
def sweepTellsWrong : ChangeSpec := { name := "sweepTells", fn := fun _ => fun
  | [d] => { results := [.lit (.bool false)], args := [d] }
  | _ => none }
def SweepTellsWrongFalsely : Prop := sweepTellsRow.holds Tryz.pinned (OpenSpec.ofChange sweepTellsWrong)

/-- 'plimsolllaw21.SweepTwice': WHATEVER THE INPUT: true; the input reads as it did. -/
def sweepTwiceSpec : ChangeSpec := { name := "sweepTwice", fn := fun _ => fun
  | [d] => { results := [.lit (.bool true)], args := [d] }
  | _ => none }
def sweepTwiceRow : OpenClaim := { program := "ythjnbidgliejkaagreat", sum := "33e7686aab38b8534aa2c95fa2a95d2451f378bfea9ba68d32622baa7f27b72e", func := "plimsoll/plimsolllaw21.SweepTwice", spec := "sweepTwice", inPlace := ["math/bits.Add64"], unfollowed := true, recurses := true, apart := false }
def SweepTwiceSaid : Prop := sweepTwiceRow.holds Tryz.pinned (OpenSpec.ofChange sweepTwiceSpec)

/-- ITS FALSE NEIGHBOUR: 'it returns false'. Refute it at one input. -/
def sweepTwiceWrong : ChangeSpec := { name := "sweepTwice", fn := fun _ => fun
  | [d] => { results := [.lit (.bool false)], args := [d] }
  | _ => none }
def SweepTwiceWrongFalsely : Prop := sweepTwiceRow.holds Tryz.pinned (OpenSpec.ofChange sweepTwiceWrong)

/-- 'plimsolllaw21.SweepSees': WHATEVER THE INPUT: true; the input reads as it did. -/
def sweepSeesSpec : ChangeSpec := { name := "sweepSees", fn := fun _ => fun
  | [d1, d2, d3, d4] => { results := [.lit (.bool true)], args := [d1, d2, d3, d4] }
  | _ => none }
def sweepSeesRow : OpenClaim := { program := "ythjnbidgliejkaagreat", sum := "33e7686aab38b8534aa2c95fa2a95d2451f378bfea9ba68d32622baa7f27b72e", func := "plimsoll/plimsolllaw21.SweepSees", spec := "sweepSees", inPlace := ["math/bits.Add64"], unfollowed := true, recurses := true, apart := false }
def SweepSeesSaid : Prop := sweepSeesRow.holds Tryz.pinned (OpenSpec.ofChange sweepSeesSpec)

/-- ITS FALSE NEIGHBOUR: 'it returns false'. Refute it at one input. -/
def sweepSeesWrong : ChangeSpec := { name := "sweepSees", fn := fun _ => fun
  | [d1, d2, d3, d4] => { results := [.lit (.bool false)], args := [d1, d2, d3, d4] }
  | _ => none }
def SweepSeesWrongFalsely : Prop := sweepSeesRow.holds Tryz.pinned (OpenSpec.ofChange sweepSeesWrong)

/-- 'plimsolltop.TopSteps': WHATEVER THE INPUT: true; the input reads as it did. -/
def topStepsSpec : ChangeSpec := { name := "topSteps", fn := fun _ => fun
  | [d1, d2, d3, d4, d5] => { results := [.lit (.bool true)], args := [d1, d2, d3, d4, d5] }
  | _ => none }
def topStepsRow : OpenClaim := { program := "ythjnbidgliejkaagreat", sum := "33e7686aab38b8534aa2c95fa2a95d2451f378bfea9ba68d32622baa7f27b72e", func := "plimsoll/plimsolltop.TopSteps", spec := "topSteps", inPlace := ["math/bits.Add64"], unfollowed := true, recurses := true, apart := false }
def TopStepsSaid : Prop := topStepsRow.holds Tryz.pinned (OpenSpec.ofChange topStepsSpec)

/-- ITS FALSE NEIGHBOUR: 'it returns false'. Refute it at one input. -/
def topStepsWrong : ChangeSpec := { name := "topSteps", fn := fun _ => fun
  | [d1, d2, d3, d4, d5] => { results := [.lit (.bool false)], args := [d1, d2, d3, d4, d5] }
  | _ => none }
def TopStepsWrongFalsely : Prop := topStepsRow.holds Tryz.pinned (OpenSpec.ofChange topStepsWrong)

/- THE SECOND FORM. 'bulk': how many values and letters a reading holds, each counted each time it is reached (what is shared counts as often as it is met; a slice's spare places count too). A statement '..UptoSaid' is the law's where the arguments, and the package variables that the reading takes, are together of bulk at most 1048576: NARROWER than '..Said'. Prove '..Said' where nothing that the law and all that it calls make is longer than what came in: it says more and counts as full. Else prove '..UptoSaid'. A law counts once. -/
mutual
def uptoBulk {H : Type} : DataW H → Nat
  | .lit (.string bytes) => bytes.length + 1
  | .lit _ => 1
  | .nil => 1
  | .ptr d => uptoBulk d + 1
  | .slice elems spare => uptoBulkAll elems + uptoBulkAll spare + 1
  | .agg parts => uptoBulkAll parts + 1
  | .iface _ d => uptoBulk d + 1
  | .map entries => uptoBulkEntries entries + 1
  | .held _ => 1
def uptoBulkAll {H : Type} : List (DataW H) → Nat
  | [] => 0
  | d :: r => uptoBulk d + uptoBulkAll r
def uptoBulkEntries {H : Type} : List (Lit × DataW H) → Nat
  | [] => 0
  | x :: r => uptoBulkEntry x + uptoBulkEntries r
def uptoBulkEntry {H : Type} : Lit × DataW H → Nat
  | (.string bytes, d) => bytes.length + uptoBulk d + 1
  | (_, d) => uptoBulk d + 1
 end
def uptoSmall : (H : Type) → List (DataW H) → Bool := fun _ ds => decide (uptoBulkAll ds ≤ 1048576)
def OpenSpec.upto (s : _root_.Go.ChangeSpec) : _root_.Go.OpenSpec := { _root_.Go.OpenSpec.ofChange s with cond := some uptoSmall }

/-- 'plimsolllaw17.StateTells', WHERE WHAT IT READS IS OF BULK AT MOST 1048576: true; the input reads as it did. -/
def stateTellsUptoRow : OpenClaim := { program := "ythjnbidgliejkaagreat", sum := "33e7686aab38b8534aa2c95fa2a95d2451f378bfea9ba68d32622baa7f27b72e", func := "plimsoll/plimsolllaw17.StateTells", spec := "stateTells", inPlace := ["math/bits.Add64"], unfollowed := true, recurses := true, apart := false, narrowed := true }
def StateTellsUptoSaid : Prop := stateTellsUptoRow.holds Tryz.pinned (OpenSpec.upto stateTellsSpec)

/-- 'plimsolllaw17.StateNew', WHERE WHAT IT READS IS OF BULK AT MOST 1048576: true; the input reads as it did. -/
def stateNewUptoRow : OpenClaim := { program := "ythjnbidgliejkaagreat", sum := "33e7686aab38b8534aa2c95fa2a95d2451f378bfea9ba68d32622baa7f27b72e", func := "plimsoll/plimsolllaw17.StateNew", spec := "stateNew", inPlace := ["math/bits.Add64"], unfollowed := true, recurses := true, apart := false, narrowed := true }
def StateNewUptoSaid : Prop := stateNewUptoRow.holds Tryz.pinned (OpenSpec.upto stateNewSpec)

/-- 'plimsolltop.TopTurns', WHERE WHAT IT READS IS OF BULK AT MOST 1048576: true; the input reads as it did. -/
def topTurnsUptoRow : OpenClaim := { program := "ythjnbidgliejkaagreat", sum := "33e7686aab38b8534aa2c95fa2a95d2451f378bfea9ba68d32622baa7f27b72e", func := "plimsoll/plimsolltop.TopTurns", spec := "topTurns", inPlace := ["math/bits.Add64"], unfollowed := true, recurses := true, apart := false, narrowed := true }
def TopTurnsUptoSaid : Prop := topTurnsUptoRow.holds Tryz.pinned (OpenSpec.upto topTurnsSpec)

/-- 'plimsolllaw17.StateMany', WHERE WHAT IT READS IS OF BULK AT MOST 1048576: true; the input reads as it did. -/
def stateManyUptoRow : OpenClaim := { program := "ythjnbidgliejkaagreat", sum := "33e7686aab38b8534aa2c95fa2a95d2451f378bfea9ba68d32622baa7f27b72e", func := "plimsoll/plimsolllaw17.StateMany", spec := "stateMany", inPlace := ["math/bits.Add64"], unfollowed := true, recurses := true, apart := false, narrowed := true }
def StateManyUptoSaid : Prop := stateManyUptoRow.holds Tryz.pinned (OpenSpec.upto stateManySpec)

/-- 'plimsolllaw19.WriteOne', WHERE WHAT IT READS IS OF BULK AT MOST 1048576: true; the input reads as it did. -/
def writeOneUptoRow : OpenClaim := { program := "ythjnbidgliejkaagreat", sum := "33e7686aab38b8534aa2c95fa2a95d2451f378bfea9ba68d32622baa7f27b72e", func := "plimsoll/plimsolllaw19.WriteOne", spec := "writeOne", inPlace := ["math/bits.Add64"], unfollowed := true, recurses := true, apart := false, narrowed := true }
def WriteOneUptoSaid : Prop := writeOneUptoRow.holds Tryz.pinned (OpenSpec.upto writeOneSpec)

/-- 'plimsolllaw20.CascadeBack', WHERE WHAT IT READS IS OF BULK AT MOST 1048576: true; the input reads as it did. -/
def cascadeBackUptoRow : OpenClaim := { program := "ythjnbidgliejkaagreat", sum := "33e7686aab38b8534aa2c95fa2a95d2451f378bfea9ba68d32622baa7f27b72e", func := "plimsoll/plimsolllaw20.CascadeBack", spec := "cascadeBack", inPlace := ["math/bits.Add64"], unfollowed := true, recurses := true, apart := false, narrowed := true }
def CascadeBackUptoSaid : Prop := cascadeBackUptoRow.holds Tryz.pinned (OpenSpec.upto cascadeBackSpec)

/-- 'plimsolllaw21.SweepTells', WHERE WHAT IT READS IS OF BULK AT MOST 1048576: true; the input reads as it did. -/
def sweepTellsUptoRow : OpenClaim := { program := "ythjnbidgliejkaagreat", sum := "33e7686aab38b8534aa2c95fa2a95d2451f378bfea9ba68d32622baa7f27b72e", func := "plimsoll/plimsolllaw21.SweepTells", spec := "sweepTells", inPlace := ["math/bits.Add64"], unfollowed := true, recurses := true, apart := false, narrowed := true }
def SweepTellsUptoSaid : Prop := sweepTellsUptoRow.holds Tryz.pinned (OpenSpec.upto sweepTellsSpec)

/-- 'plimsolllaw21.SweepTwice', WHERE WHAT IT READS IS OF BULK AT MOST 1048576: true; the input reads as it did. -/
def sweepTwiceUptoRow : OpenClaim := { program := "ythjnbidgliejkaagreat", sum := "33e7686aab38b8534aa2c95fa2a95d2451f378bfea9ba68d32622baa7f27b72e", func := "plimsoll/plimsolllaw21.SweepTwice", spec := "sweepTwice", inPlace := ["math/bits.Add64"], unfollowed := true, recurses := true, apart := false, narrowed := true }
def SweepTwiceUptoSaid : Prop := sweepTwiceUptoRow.holds Tryz.pinned (OpenSpec.upto sweepTwiceSpec)

/-- 'plimsolllaw21.SweepSees', WHERE WHAT IT READS IS OF BULK AT MOST 1048576: true; the input reads as it did. -/
def sweepSeesUptoRow : OpenClaim := { program := "ythjnbidgliejkaagreat", sum := "33e7686aab38b8534aa2c95fa2a95d2451f378bfea9ba68d32622baa7f27b72e", func := "plimsoll/plimsolllaw21.SweepSees", spec := "sweepSees", inPlace := ["math/bits.Add64"], unfollowed := true, recurses := true, apart := false, narrowed := true }
def SweepSeesUptoSaid : Prop := sweepSeesUptoRow.holds Tryz.pinned (OpenSpec.upto sweepSeesSpec)

/-- 'plimsolltop.TopSteps', WHERE WHAT IT READS IS OF BULK AT MOST 1048576: true; the input reads as it did. -/
def topStepsUptoRow : OpenClaim := { program := "ythjnbidgliejkaagreat", sum := "33e7686aab38b8534aa2c95fa2a95d2451f378bfea9ba68d32622baa7f27b72e", func := "plimsoll/plimsolltop.TopSteps", spec := "topSteps", inPlace := ["math/bits.Add64"], unfollowed := true, recurses := true, apart := false, narrowed := true }
def TopStepsUptoSaid : Prop := topStepsUptoRow.holds Tryz.pinned (OpenSpec.upto topStepsSpec)

end Rows
end Go.Proofs.YthjnbidgliejkaaGreat

/-
  No cell of these rows narrows 'for every input' (looked for: loops, veiled, ifaces, maps, wideKeys, modest, calm, conditions, laid).
  DERIVED. THE GIVEN ROWS OF THIS SEAT. 3 by the template 'for every input the law returns true; each argument reads behind the call as it read before'; 0 by the template 'total and deterministic' (their statements: YtjeabebacegikaaGreatTotals.lean).
  GIVEN WITH THE SEED: the statements are not yours to turn. If you find one false, say at which input.
  Laid BY PROGRAM, IN A SANDBOX (cutbox-rows.mjs): the forced cells as the released guide's own fill.sh prints them over the translation 09497a78b7ba1f89… (all of the seat's roots in one cut). By AI agents, Wed Nov 11 2026. No macro, syntax, notation, axiom, sorry.
-/
import Derived.Test.YtjeabebacegikaaGreatChecked
import GoSem.Claim
import GoSem.ClaimJoined
import GoSem.ClaimMapViews
import Derived.JoinedTies
import Derived.KernelRfl
namespace Go.Proofs.YtjeabebacegikaaGreat
/- THE CELL 'sum', in the pinned program and in every row, IS THE sha256 OF THE DUMP (.gsa) THAT YtjeabebacegikaaGreatProg.lean LOADS. Nothing in Lean hashes anything: it is a label: what it is worth is what the hold of that sum in a sandbox is worth. -/
noncomputable def Tryz.pinned : Pinned := { name := "ytjeabebacegikaagreat", sum := "09497a78b7ba1f890533358a1b201d658632d353d7aaf04a9d979a8fd5ebbe53", checked := Tryz.checked }
namespace Rows
def none {H : Type} : Left H := { results := [], args := [] }

/-- 'plimsolllaw21.SweepTells': WHATEVER THE INPUT: true; the input reads as it did. -/
def sweepTellsSpec : ChangeSpec := { name := "sweepTells", fn := fun _ => fun
  | [d] => { results := [.lit (.bool true)], args := [d] }
  | _ => none }
def sweepTellsRow : OpenClaim := { program := "ytjeabebacegikaagreat", sum := "09497a78b7ba1f890533358a1b201d658632d353d7aaf04a9d979a8fd5ebbe53", func := "plimsoll/plimsolllaw21.SweepTells", spec := "sweepTells", inPlace := ["math/bits.Add64"], unfollowed := true, recurses := true, apart := false }
def SweepTellsSaid : Prop := sweepTellsRow.holds Tryz.pinned (OpenSpec.ofChange sweepTellsSpec)

/-- ITS FALSE NEIGHBOUR: 'it returns false'. Refute it at one input. -/
def sweepTellsWrong : ChangeSpec := { name := "sweepTells", fn := fun _ => fun
  | [d] => { results := [.lit (.bool false)], args := [d] }
  | _ => none }
def SweepTellsWrongFalsely : Prop := sweepTellsRow.holds Tryz.pinned (OpenSpec.ofChange sweepTellsWrong)

/-- 'plimsolllaw21.SweepTwice': WHATEVER THE INPUT: true; the input reads as it did. -/
def sweepTwiceSpec : ChangeSpec := { name := "sweepTwice", fn := fun _ => fun
  | [d] => { results := [.lit (.bool true)], args := [d] }
  | _ => none }
def sweepTwiceRow : OpenClaim := { program := "ytjeabebacegikaagreat", sum := "09497a78b7ba1f890533358a1b201d658632d353d7aaf04a9d979a8fd5ebbe53", func := "plimsoll/plimsolllaw21.SweepTwice", spec := "sweepTwice", inPlace := ["math/bits.Add64"], unfollowed := true, recurses := true, apart := false }
def SweepTwiceSaid : Prop := sweepTwiceRow.holds Tryz.pinned (OpenSpec.ofChange sweepTwiceSpec)

/-- ITS FALSE NEIGHBOUR: 'it returns false'. Refute it at one input. -/
def sweepTwiceWrong : ChangeSpec := { name := "sweepTwice", fn := fun _ => fun
  | [d] => { results := [.lit (.bool false)], args := [d] }
  | _ => none }
def SweepTwiceWrongFalsely : Prop := sweepTwiceRow.holds Tryz.pinned (OpenSpec.ofChange sweepTwiceWrong)

/-- 'plimsolllaw21.SweepSees': WHATEVER THE INPUT: true; the input reads as it did. -/
def sweepSeesSpec : ChangeSpec := { name := "sweepSees", fn := fun _ => fun
  | [d1, d2, d3, d4] => { results := [.lit (.bool true)], args := [d1, d2, d3, d4] }
  | _ => none }
def sweepSeesRow : OpenClaim := { program := "ytjeabebacegikaagreat", sum := "09497a78b7ba1f890533358a1b201d658632d353d7aaf04a9d979a8fd5ebbe53", func := "plimsoll/plimsolllaw21.SweepSees", spec := "sweepSees", inPlace := ["math/bits.Add64"], unfollowed := true, recurses := true, apart := false }
def SweepSeesSaid : Prop := sweepSeesRow.holds Tryz.pinned (OpenSpec.ofChange sweepSeesSpec)

/-- ITS FALSE NEIGHBOUR: 'it returns false'. Refute it at one input. -/
def sweepSeesWrong : ChangeSpec := { name := "sweepSees", fn := fun _ => fun
  | [d1, d2, d3, d4] => { results := [.lit (.bool false)], args := [d1, d2, d3, d4] }
  | _ => none }
def SweepSeesWrongFalsely : Prop := sweepSeesRow.holds Tryz.pinned (OpenSpec.ofChange sweepSeesWrong)

/- THE SECOND FORM. 'bulk': how many values and letters a reading holds, each counted each time it is reached (what is shared counts as often as it is met; a slice's spare places count too). A statement '..UptoSaid' is the law's where the arguments, and the package variables that the reading takes, are together of bulk at most 1048576: NARROWER than '..Said'. Prove '..Said' where nothing that the law and all that it calls make is longer than what came in: it says more and counts as full. Else prove '..UptoSaid'. A law counts once. -/
mutual
def uptoBulk {H : Type} : DataW H → Nat
  | .lit (.string bytes) => bytes.length + 1
  | .lit _ => 1
  | .nil => 1
  | .ptr d => uptoBulk d + 1
  | .slice elems spare => uptoBulkAll elems + uptoBulkAll spare + 1
  | .agg parts => uptoBulkAll parts + 1
  | .iface _ d => uptoBulk d + 1
  | .map entries => uptoBulkEntries entries + 1
  | .held _ => 1
def uptoBulkAll {H : Type} : List (DataW H) → Nat
  | [] => 0
  | d :: r => uptoBulk d + uptoBulkAll r
def uptoBulkEntries {H : Type} : List (Lit × DataW H) → Nat
  | [] => 0
  | x :: r => uptoBulkEntry x + uptoBulkEntries r
def uptoBulkEntry {H : Type} : Lit × DataW H → Nat
  | (.string bytes, d) => bytes.length + uptoBulk d + 1
  | (_, d) => uptoBulk d + 1
 end
def uptoSmall : (H : Type) → List (DataW H) → Bool := fun _ ds => decide (uptoBulkAll ds ≤ 1048576)
def OpenSpec.upto (s : _root_.Go.ChangeSpec) : _root_.Go.OpenSpec := { _root_.Go.OpenSpec.ofChange s with cond := some uptoSmall }

/-- 'plimsolllaw21.SweepTells', WHERE WHAT IT READS IS OF BULK AT MOST 1048576: true; the input reads as it did. -/
def sweepTellsUptoRow : OpenClaim := { program := "ytjeabebacegikaagreat", sum := "09497a78b7ba1f890533358a1b201d658632d353d7aaf04a9d979a8fd5ebbe53", func := "plimsoll/plimsolllaw21.SweepTells", spec := "sweepTells", inPlace := ["math/bits.Add64"], unfollowed := true, recurses := true, apart := false, narrowed := true }
def SweepTellsUptoSaid : Prop := sweepTellsUptoRow.holds Tryz.pinned (OpenSpec.upto sweepTellsSpec)

/-- 'plimsolllaw21.SweepTwice', WHERE WHAT IT READS IS OF BULK AT MOST 1048576: true; the input reads as it did. -/
def sweepTwiceUptoRow : OpenClaim := { program := "ytjeabebacegikaagreat", sum := "09497a78b7ba1f890533358a1b201d658632d353d7aaf04a9d979a8fd5ebbe53", func := "plimsoll/plimsolllaw21.SweepTwice", spec := "sweepTwice", inPlace := ["math/bits.Add64"], unfollowed := true, recurses := true, apart := false, narrowed := true }
def SweepTwiceUptoSaid : Prop := sweepTwiceUptoRow.holds Tryz.pinned (OpenSpec.upto sweepTwiceSpec)

/-- 'plimsolllaw21.SweepSees', WHERE WHAT IT READS IS OF BULK AT MOST 1048576: true; the input reads as it did. -/
def sweepSeesUptoRow : OpenClaim := { program := "ytjeabebacegikaagreat", sum := "09497a78b7ba1f890533358a1b201d658632d353d7aaf04a9d979a8fd5ebbe53", func := "plimsoll/plimsolllaw21.SweepSees", spec := "sweepSees", inPlace := ["math/bits.Add64"], unfollowed := true, recurses := true, apart := false, narrowed := true }
def SweepSeesUptoSaid : Prop := sweepSeesUptoRow.holds Tryz.pinned (OpenSpec.upto sweepSeesSpec)

end Rows
end Go.Proofs.YtjeabebacegikaaGreat

/-
  No cell of these rows narrows 'for every input' (looked for: loops, veiled, ifaces, maps, wideKeys, modest, calm, conditions, laid).
  DERIVED. THE GIVEN ROWS OF THIS SEAT. 4 by the template 'for every input the law returns true; each argument reads behind the call as it read before'; 0 by the template 'total and deterministic' (their statements: YtapadkjknnfifaaTotals.lean).
  GIVEN WITH THE SEED: the statements are not yours to turn. If you find one false, say at which input.
  Laid BY PROGRAM, IN A SANDBOX (cutbox-rows.mjs): the forced cells as the released guide's own fill.sh prints them over the translation ff6e330a74073ee6… (all of the seat's roots in one cut). By AI agents, Wed Nov 11 2026. No macro, syntax, notation, axiom, sorry.
-/
import Derived.Test.YtapadkjknnfifaaChecked
import GoSem.Claim
import GoSem.ClaimJoined
import GoSem.ClaimMapViews
import Derived.JoinedTies
import Derived.KernelRfl
namespace Go.Proofs.Ytapadkjknnfifaa
/- THE CELL 'sum', in the pinned program and in every row, IS THE sha256 OF THE DUMP (.gsa) THAT YtapadkjknnfifaaProg.lean LOADS. Nothing in Lean hashes anything: it is a label: what it is worth is what the hold of that sum in a sandbox is worth. -/
noncomputable def Try.pinned : Pinned := { name := "ytapadkjknnfifaa", sum := "ff6e330a74073ee65d2e3c3ca1b49ad9896e557a74cb0c98418b82fcb86f8b57", checked := Try.checked }
namespace Rows
def none {H : Type} : Left H := { results := [], args := [] }

/-- 'plimsolllaw13.TierFolds': WHATEVER THE INPUT: true; the input reads as it did. -/
def tierFoldsSpec : ChangeSpec := { name := "tierFolds", fn := fun _ => fun
  | [d1, d2, d3, d4] => { results := [.lit (.bool true)], args := [d1, d2, d3, d4] }
  | _ => none }
def tierFoldsRow : OpenClaim := { program := "ytapadkjknnfifaa", sum := "ff6e330a74073ee65d2e3c3ca1b49ad9896e557a74cb0c98418b82fcb86f8b57", func := "plimsoll/plimsolllaw13.TierFolds", spec := "tierFolds", inPlace := ["math/bits.Add64"], unfollowed := true, recurses := true, apart := false }
def TierFoldsSaid : Prop := tierFoldsRow.holds Try.pinned (OpenSpec.ofChange tierFoldsSpec)

/-- ITS FALSE NEIGHBOUR: 'it returns false'. Refute it at one input. -/
def tierFoldsWrong : ChangeSpec := { name := "tierFolds", fn := fun _ => fun
  | [d1, d2, d3, d4] => { results := [.lit (.bool false)], args := [d1, d2, d3, d4] }
  | _ => none }
def TierFoldsWrongFalsely : Prop := tierFoldsRow.holds Try.pinned (OpenSpec.ofChange tierFoldsWrong)

/-- 'plimsolllaw13.TierLast': WHATEVER THE INPUT: true; the input reads as it did. -/
def tierLastSpec : ChangeSpec := { name := "tierLast", fn := fun _ => fun
  | [d1, d2, d3, d4] => { results := [.lit (.bool true)], args := [d1, d2, d3, d4] }
  | _ => none }
def tierLastRow : OpenClaim := { program := "ytapadkjknnfifaa", sum := "ff6e330a74073ee65d2e3c3ca1b49ad9896e557a74cb0c98418b82fcb86f8b57", func := "plimsoll/plimsolllaw13.TierLast", spec := "tierLast", inPlace := ["math/bits.Add64"], unfollowed := true, recurses := true, apart := false }
def TierLastSaid : Prop := tierLastRow.holds Try.pinned (OpenSpec.ofChange tierLastSpec)

/-- ITS FALSE NEIGHBOUR: 'it returns false'. Refute it at one input. -/
def tierLastWrong : ChangeSpec := { name := "tierLast", fn := fun _ => fun
  | [d1, d2, d3, d4] => { results := [.lit (.bool false)], args := [d1, d2, d3, d4] }
  | _ => none }
def TierLastWrongFalsely : Prop := tierLastRow.holds Try.pinned (OpenSpec.ofChange tierLastWrong)

/-- 'plimsolllaw14.FoldTells': WHATEVER THE INPUT: true; the input reads as it did. -/
def foldTellsSpec : ChangeSpec := { name := "foldTells", fn := fun _ => fun
  | [d1, d2, d3, d4, d5, d6] => { results := [.lit (.bool true)], args := [d1, d2, d3, d4, d5, d6] }
  | _ => none }
def foldTellsRow : OpenClaim := { program := "ytapadkjknnfifaa", sum := "ff6e330a74073ee65d2e3c3ca1b49ad9896e557a74cb0c98418b82fcb86f8b57", func := "plimsoll/plimsolllaw14.FoldTells", spec := "foldTells", inPlace := ["math/bits.Add64"], unfollowed := true, recurses := true, apart := false }
def FoldTellsSaid : Prop := foldTellsRow.holds Try.pinned (OpenSpec.ofChange foldTellsSpec)

/-- ITS FALSE NEIGHBOUR: 'it returns false'. Refute it at one input. -/
def foldTellsWrong : ChangeSpec := { name := "foldTells", fn := fun _ => fun
  | [d1, d2, d3, d4, d5, d6] => { results := [.lit (.bool false)], args := [d1, d2, d3, d4, d5, d6] }
  | _ => none }
def FoldTellsWrongFalsely : Prop := foldTellsRow.holds Try.pinned (OpenSpec.ofChange foldTellsWrong)

/-- 'plimsolllaw14.FoldTiers': WHATEVER THE INPUT: true; the input reads as it did. -/
def foldTiersSpec : ChangeSpec := { name := "foldTiers", fn := fun _ => fun
  | [d1, d2] => { results := [.lit (.bool true)], args := [d1, d2] }
  | _ => none }
def foldTiersRow : OpenClaim := { program := "ytapadkjknnfifaa", sum := "ff6e330a74073ee65d2e3c3ca1b49ad9896e557a74cb0c98418b82fcb86f8b57", func := "plimsoll/plimsolllaw14.FoldTiers", spec := "foldTiers", inPlace := ["math/bits.Add64"], unfollowed := true, recurses := true, apart := false }
def FoldTiersSaid : Prop := foldTiersRow.holds Try.pinned (OpenSpec.ofChange foldTiersSpec)

/-- ITS FALSE NEIGHBOUR: 'it returns false'. Refute it at one input. -/
def foldTiersWrong : ChangeSpec := { name := "foldTiers", fn := fun _ => fun
  | [d1, d2] => { results := [.lit (.bool false)], args := [d1, d2] }
  | _ => none }
def FoldTiersWrongFalsely : Prop := foldTiersRow.holds Try.pinned (OpenSpec.ofChange foldTiersWrong)

/- THE SECOND FORM. 'bulk': how many values and letters a reading holds, each counted each time it is reached (what is shared counts as often as it is met; a slice's spare places count too). A statement '..UptoSaid' is the law's where the arguments, and the package variables that the reading takes, are together of bulk at most 1048576: NARROWER than '..Said'. Prove '..Said' where nothing that the law and all that it calls make is longer than what came in: it says more and counts as full. Else prove '..UptoSaid'. A law counts once. -/
mutual
def uptoBulk {H : Type} : DataW H → Nat
  | .lit (.string bytes) => bytes.length + 1
  | .lit _ => 1
  | .nil => 1
  | .ptr d => uptoBulk d + 1
  | .slice elems spare => uptoBulkAll elems + uptoBulkAll spare + 1
  | .agg parts => uptoBulkAll parts + 1
  | .iface _ d => uptoBulk d + 1
  | .map entries => uptoBulkEntries entries + 1
  | .held _ => 1
def uptoBulkAll {H : Type} : List (DataW H) → Nat
  | [] => 0
  | d :: r => uptoBulk d + uptoBulkAll r
def uptoBulkEntries {H : Type} : List (Lit × DataW H) → Nat
  | [] => 0
  | x :: r => uptoBulkEntry x + uptoBulkEntries r
def uptoBulkEntry {H : Type} : Lit × DataW H → Nat
  | (.string bytes, d) => bytes.length + uptoBulk d + 1
  | (_, d) => uptoBulk d + 1
 end
def uptoSmall : (H : Type) → List (DataW H) → Bool := fun _ ds => decide (uptoBulkAll ds ≤ 1048576)
def OpenSpec.upto (s : _root_.Go.ChangeSpec) : _root_.Go.OpenSpec := { _root_.Go.OpenSpec.ofChange s with cond := some uptoSmall }

/-- 'plimsolllaw13.TierFolds', WHERE WHAT IT READS IS OF BULK AT MOST 1048576: true; the input reads as it did. -/
def tierFoldsUptoRow : OpenClaim := { program := "ytapadkjknnfifaa", sum := "ff6e330a74073ee65d2e3c3ca1b49ad9896e557a74cb0c98418b82fcb86f8b57", func := "plimsoll/plimsolllaw13.TierFolds", spec := "tierFolds", inPlace := ["math/bits.Add64"], unfollowed := true, recurses := true, apart := false, narrowed := true }
def TierFoldsUptoSaid : Prop := tierFoldsUptoRow.holds Try.pinned (OpenSpec.upto tierFoldsSpec)

/-- 'plimsolllaw13.TierLast', WHERE WHAT IT READS IS OF BULK AT MOST 1048576: true; the input reads as it did. -/
def tierLastUptoRow : OpenClaim := { program := "ytapadkjknnfifaa", sum := "ff6e330a74073ee65d2e3c3ca1b49ad9896e557a74cb0c98418b82fcb86f8b57", func := "plimsoll/plimsolllaw13.TierLast", spec := "tierLast", inPlace := ["math/bits.Add64"], unfollowed := true, recurses := true, apart := false, narrowed := true }
def TierLastUptoSaid : Prop := tierLastUptoRow.holds Try.pinned (OpenSpec.upto tierLastSpec)

/-- 'plimsolllaw14.FoldTells', WHERE WHAT IT READS IS OF BULK AT MOST 1048576: true; the input reads as it did. -/
def foldTellsUptoRow : OpenClaim := { program := "ytapadkjknnfifaa", sum := "ff6e330a74073ee65d2e3c3ca1b49ad9896e557a74cb0c98418b82fcb86f8b57", func := "plimsoll/plimsolllaw14.FoldTells", spec := "foldTells", inPlace := ["math/bits.Add64"], unfollowed := true, recurses := true, apart := false, narrowed := true }
def FoldTellsUptoSaid : Prop := foldTellsUptoRow.holds Try.pinned (OpenSpec.upto foldTellsSpec)

/-- 'plimsolllaw14.FoldTiers', WHERE WHAT IT READS IS OF BULK AT MOST 1048576: true; the input reads as it did. -/
def foldTiersUptoRow : OpenClaim := { program := "ytapadkjknnfifaa", sum := "ff6e330a74073ee65d2e3c3ca1b49ad9896e557a74cb0c98418b82fcb86f8b57", func := "plimsoll/plimsolllaw14.FoldTiers", spec := "foldTiers", inPlace := ["math/bits.Add64"], unfollowed := true, recurses := true, apart := false, narrowed := true }
def FoldTiersUptoSaid : Prop := foldTiersUptoRow.holds Try.pinned (OpenSpec.upto foldTiersSpec)

end Rows
end Go.Proofs.Ytapadkjknnfifaa

/-
  No cell of these rows narrows 'for every input' (looked for: loops, veiled, ifaces, maps, wideKeys, modest, calm, conditions, laid).
  DERIVED. THE GIVEN ROWS OF THIS SEAT. 4 by the template 'for every input the law returns true; each argument reads behind the call as it read before'; 0 by the template 'total and deterministic' (their statements: YtagnkfbpgkckiaaGreatTotals.lean).
  GIVEN WITH THE SEED: the statements are not yours to turn. If you find one false, say at which input.
  Laid BY PROGRAM, IN A SANDBOX (cutbox-rows.mjs): the forced cells as the released guide's own fill.sh prints them over the translation 5f76d2faf66cc4cb… (all of the seat's roots in one cut). By AI agents, Wed Nov 11 2026. No macro, syntax, notation, axiom, sorry.
-/
import Derived.Test.YtagnkfbpgkckiaaGreatChecked
import GoSem.Claim
import GoSem.ClaimJoined
import GoSem.ClaimMapViews
import Derived.JoinedTies
import Derived.KernelRfl
namespace Go.Proofs.YtagnkfbpgkckiaaGreat
/- THE CELL 'sum', in the pinned program and in every row, IS THE sha256 OF THE DUMP (.gsa) THAT YtagnkfbpgkckiaaGreatProg.lean LOADS. Nothing in Lean hashes anything: it is a label: what it is worth is what the hold of that sum in a sandbox is worth. -/
noncomputable def Tryz.pinned : Pinned := { name := "ytagnkfbpgkckiaagreat", sum := "5f76d2faf66cc4cbbfd71bcb5b436d6d5efeb17c70900cba2344ca82769946b6", checked := Tryz.checked }
namespace Rows
def none {H : Type} : Left H := { results := [], args := [] }

/-- 'plimsolllaw24.ImageTells': WHATEVER THE INPUT: true; the input reads as it did. -/
def imageTellsSpec : ChangeSpec := { name := "imageTells", fn := fun _ => fun
  | [d1, d2, d3] => { results := [.lit (.bool true)], args := [d1, d2, d3] }
  | _ => none }
def imageTellsRow : OpenClaim := { program := "ytagnkfbpgkckiaagreat", sum := "5f76d2faf66cc4cbbfd71bcb5b436d6d5efeb17c70900cba2344ca82769946b6", func := "plimsoll/plimsolllaw24.ImageTells", spec := "imageTells", inPlace := ["math/bits.Add64", "internal/abi.NoEscape", "internal/bytealg.MakeNoZero"], unfollowed := true, recurses := true, apart := false }
def ImageTellsSaid : Prop := imageTellsRow.holds Tryz.pinned (OpenSpec.ofChange imageTellsSpec)

/-- ITS FALSE NEIGHBOUR: 'it returns false'. Refute it at one input. -/
def imageTellsWrong : ChangeSpec := { name := "imageTells", fn := fun _ => fun
  | [d1, d2, d3] => { results := [.lit (.bool false)], args := [d1, d2, d3] }
  | _ => none }
def ImageTellsWrongFalsely : Prop := imageTellsRow.holds Tryz.pinned (OpenSpec.ofChange imageTellsWrong)

/-- 'plimsolllaw24.ImageOf': WHATEVER THE INPUT: true; the input reads as it did. -/
def imageOfSpec : ChangeSpec := { name := "imageOf", fn := fun _ => fun
  | [d1, d2, d3] => { results := [.lit (.bool true)], args := [d1, d2, d3] }
  | _ => none }
def imageOfRow : OpenClaim := { program := "ytagnkfbpgkckiaagreat", sum := "5f76d2faf66cc4cbbfd71bcb5b436d6d5efeb17c70900cba2344ca82769946b6", func := "plimsoll/plimsolllaw24.ImageOf", spec := "imageOf", inPlace := ["math/bits.Add64", "internal/abi.NoEscape", "internal/bytealg.MakeNoZero"], unfollowed := true, recurses := true, apart := false }
def ImageOfSaid : Prop := imageOfRow.holds Tryz.pinned (OpenSpec.ofChange imageOfSpec)

/-- ITS FALSE NEIGHBOUR: 'it returns false'. Refute it at one input. -/
def imageOfWrong : ChangeSpec := { name := "imageOf", fn := fun _ => fun
  | [d1, d2, d3] => { results := [.lit (.bool false)], args := [d1, d2, d3] }
  | _ => none }
def ImageOfWrongFalsely : Prop := imageOfRow.holds Tryz.pinned (OpenSpec.ofChange imageOfWrong)

/-- 'plimsolllaw24.ImageBack': WHATEVER THE INPUT: true; the input reads as it did. -/
def imageBackSpec : ChangeSpec := { name := "imageBack", fn := fun _ => fun
  | [d1, d2, d3, d4] => { results := [.lit (.bool true)], args := [d1, d2, d3, d4] }
  | _ => none }
def imageBackRow : OpenClaim := { program := "ytagnkfbpgkckiaagreat", sum := "5f76d2faf66cc4cbbfd71bcb5b436d6d5efeb17c70900cba2344ca82769946b6", func := "plimsoll/plimsolllaw24.ImageBack", spec := "imageBack", inPlace := ["math/bits.Add64", "internal/abi.NoEscape", "internal/bytealg.MakeNoZero"], unfollowed := true, recurses := true, apart := false }
def ImageBackSaid : Prop := imageBackRow.holds Tryz.pinned (OpenSpec.ofChange imageBackSpec)

/-- ITS FALSE NEIGHBOUR: 'it returns false'. Refute it at one input. -/
def imageBackWrong : ChangeSpec := { name := "imageBack", fn := fun _ => fun
  | [d1, d2, d3, d4] => { results := [.lit (.bool false)], args := [d1, d2, d3, d4] }
  | _ => none }
def ImageBackWrongFalsely : Prop := imageBackRow.holds Tryz.pinned (OpenSpec.ofChange imageBackWrong)

/-- 'plimsolllaw24.ImageFew': WHATEVER THE INPUT: true; the input reads as it did. -/
def imageFewSpec : ChangeSpec := { name := "imageFew", fn := fun _ => fun
  | [d1, d2, d3, d4] => { results := [.lit (.bool true)], args := [d1, d2, d3, d4] }
  | _ => none }
def imageFewRow : OpenClaim := { program := "ytagnkfbpgkckiaagreat", sum := "5f76d2faf66cc4cbbfd71bcb5b436d6d5efeb17c70900cba2344ca82769946b6", func := "plimsoll/plimsolllaw24.ImageFew", spec := "imageFew", inPlace := ["math/bits.Add64", "internal/abi.NoEscape", "internal/bytealg.MakeNoZero"], unfollowed := true, recurses := true, apart := false }
def ImageFewSaid : Prop := imageFewRow.holds Tryz.pinned (OpenSpec.ofChange imageFewSpec)

/-- ITS FALSE NEIGHBOUR: 'it returns false'. Refute it at one input. -/
def imageFewWrong : ChangeSpec := { name := "imageFew", fn := fun _ => fun
  | [d1, d2, d3, d4] => { results := [.lit (.bool false)], args := [d1, d2, d3, d4] }
  | _ => none }
def ImageFewWrongFalsely : Prop := imageFewRow.holds Tryz.pinned (OpenSpec.ofChange imageFewWrong)

/- THE SECOND FORM. 'bulk': how many values and letters a reading holds, each counted each time it is reached (what is shared counts as often as it is met; a slice's spare places count too). A statement '..UptoSaid' is the law's where the arguments, and the package variables that the reading takes, are together of bulk at most 1048576: NARROWER than '..Said'. Prove '..Said' where nothing that the law and all that it calls make is longer than what came in: it says more and counts as full. Else prove '..UptoSaid'. A law counts once. -/
mutual
def uptoBulk {H : Type} : DataW H → Nat
  | .lit (.string bytes) => bytes.length + 1
  | .lit _ => 1
  | .nil => 1
  | .ptr d => uptoBulk d + 1
  | .slice elems spare => uptoBulkAll elems + uptoBulkAll spare + 1
  | .agg parts => uptoBulkAll parts + 1
  | .iface _ d => uptoBulk d + 1
  | .map entries => uptoBulkEntries entries + 1
  | .held _ => 1
def uptoBulkAll {H : Type} : List (DataW H) → Nat
  | [] => 0
  | d :: r => uptoBulk d + uptoBulkAll r
def uptoBulkEntries {H : Type} : List (Lit × DataW H) → Nat
  | [] => 0
  | x :: r => uptoBulkEntry x + uptoBulkEntries r
def uptoBulkEntry {H : Type} : Lit × DataW H → Nat
  | (.string bytes, d) => bytes.length + uptoBulk d + 1
  | (_, d) => uptoBulk d + 1
 end
def uptoSmall : (H : Type) → List (DataW H) → Bool := fun _ ds => decide (uptoBulkAll ds ≤ 1048576)
def OpenSpec.upto (s : _root_.Go.ChangeSpec) : _root_.Go.OpenSpec := { _root_.Go.OpenSpec.ofChange s with cond := some uptoSmall }

/-- 'plimsolllaw24.ImageTells', WHERE WHAT IT READS IS OF BULK AT MOST 1048576: true; the input reads as it did. -/
def imageTellsUptoRow : OpenClaim := { program := "ytagnkfbpgkckiaagreat", sum := "5f76d2faf66cc4cbbfd71bcb5b436d6d5efeb17c70900cba2344ca82769946b6", func := "plimsoll/plimsolllaw24.ImageTells", spec := "imageTells", inPlace := ["math/bits.Add64", "internal/abi.NoEscape", "internal/bytealg.MakeNoZero"], unfollowed := true, recurses := true, apart := false, narrowed := true }
def ImageTellsUptoSaid : Prop := imageTellsUptoRow.holds Tryz.pinned (OpenSpec.upto imageTellsSpec)

/-- 'plimsolllaw24.ImageOf', WHERE WHAT IT READS IS OF BULK AT MOST 1048576: true; the input reads as it did. -/
def imageOfUptoRow : OpenClaim := { program := "ytagnkfbpgkckiaagreat", sum := "5f76d2faf66cc4cbbfd71bcb5b436d6d5efeb17c70900cba2344ca82769946b6", func := "plimsoll/plimsolllaw24.ImageOf", spec := "imageOf", inPlace := ["math/bits.Add64", "internal/abi.NoEscape", "internal/bytealg.MakeNoZero"], unfollowed := true, recurses := true, apart := false, narrowed := true }
def ImageOfUptoSaid : Prop := imageOfUptoRow.holds Tryz.pinned (OpenSpec.upto imageOfSpec)

/-- 'plimsolllaw24.ImageBack', WHERE WHAT IT READS IS OF BULK AT MOST 1048576: true; the input reads as it did. -/
def imageBackUptoRow : OpenClaim := { program := "ytagnkfbpgkckiaagreat", sum := "5f76d2faf66cc4cbbfd71bcb5b436d6d5efeb17c70900cba2344ca82769946b6", func := "plimsoll/plimsolllaw24.ImageBack", spec := "imageBack", inPlace := ["math/bits.Add64", "internal/abi.NoEscape", "internal/bytealg.MakeNoZero"], unfollowed := true, recurses := true, apart := false, narrowed := true }
def ImageBackUptoSaid : Prop := imageBackUptoRow.holds Tryz.pinned (OpenSpec.upto imageBackSpec)

/-- 'plimsolllaw24.ImageFew', WHERE WHAT IT READS IS OF BULK AT MOST 1048576: true; the input reads as it did. -/
def imageFewUptoRow : OpenClaim := { program := "ytagnkfbpgkckiaagreat", sum := "5f76d2faf66cc4cbbfd71bcb5b436d6d5efeb17c70900cba2344ca82769946b6", func := "plimsoll/plimsolllaw24.ImageFew", spec := "imageFew", inPlace := ["math/bits.Add64", "internal/abi.NoEscape", "internal/bytealg.MakeNoZero"], unfollowed := true, recurses := true, apart := false, narrowed := true }
def ImageFewUptoSaid : Prop := imageFewUptoRow.holds Tryz.pinned (OpenSpec.upto imageFewSpec)

end Rows
end Go.Proofs.YtagnkfbpgkckiaaGreat

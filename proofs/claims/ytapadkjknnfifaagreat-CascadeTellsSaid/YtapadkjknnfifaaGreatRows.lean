/-
  No cell of these rows narrows 'for every input' (looked for: loops, veiled, ifaces, maps, wideKeys, modest, calm, conditions, laid).
  DERIVED. THE GIVEN ROWS OF THIS SEAT. 5 by the template 'for every input the law returns true; each argument reads behind the call as it read before'; 0 by the template 'total and deterministic' (their statements: YtapadkjknnfifaaGreatTotals.lean).
  GIVEN WITH THE SEED: the statements are not yours to turn. If you find one false, say at which input.
  Laid BY PROGRAM, IN A SANDBOX (cutbox-rows.mjs): the forced cells as the released guide's own fill.sh prints them over the translation 7c8ea3d580b3f930… (all of the seat's roots in one cut). By AI agents, Wed Nov 11 2026. No macro, syntax, notation, axiom, sorry.
-/
import Derived.Test.YtapadkjknnfifaaGreatChecked
import GoSem.Claim
import GoSem.ClaimJoined
import GoSem.ClaimMapViews
import Derived.JoinedTies
import Derived.KernelRfl
namespace Go.Proofs.YtapadkjknnfifaaGreat
/- THE CELL 'sum', in the pinned program and in every row, IS THE sha256 OF THE DUMP (.gsa) THAT YtapadkjknnfifaaGreatProg.lean LOADS. Nothing in Lean hashes anything: it is a label: what it is worth is what the hold of that sum in a sandbox is worth. -/
noncomputable def Tryz.pinned : Pinned := { name := "ytapadkjknnfifaagreat", sum := "7c8ea3d580b3f930afc0704b02a2348a9be7668f7a02bb227a7ed533f3229954", checked := Tryz.checked }
namespace Rows
def none {H : Type} : Left H := { results := [], args := [] }

/-- 'plimsolllaw20.CascadeTells': WHATEVER THE INPUT: true; the input reads as it did. -/
def cascadeTellsSpec : ChangeSpec := { name := "cascadeTells", fn := fun _ => fun
  | [d1, d2, d3] => { results := [.lit (.bool true)], args := [d1, d2, d3] }
  | _ => none }
def cascadeTellsRow : OpenClaim := { program := "ytapadkjknnfifaagreat", sum := "7c8ea3d580b3f930afc0704b02a2348a9be7668f7a02bb227a7ed533f3229954", func := "plimsoll/plimsolllaw20.CascadeTells", spec := "cascadeTells", inPlace := ["math/bits.Add64"], unfollowed := true, recurses := true, apart := false }
def CascadeTellsSaid : Prop := cascadeTellsRow.holds Tryz.pinned (OpenSpec.ofChange cascadeTellsSpec)

/-- ITS FALSE NEIGHBOUR: 'it returns false'. Refute it at one input. -/
def cascadeTellsWrong : ChangeSpec := { name := "cascadeTells", fn := fun _ => fun
  | [d1, d2, d3] => { results := [.lit (.bool false)], args := [d1, d2, d3] }
  | _ => none }
def CascadeTellsWrongFalsely : Prop := cascadeTellsRow.holds Tryz.pinned (OpenSpec.ofChange cascadeTellsWrong)

/-- 'plimsolllaw15.SeriesTells': WHATEVER THE INPUT: true; the input reads as it did. -/
def seriesTellsSpec : ChangeSpec := { name := "seriesTells", fn := fun _ => fun
  | [d1, d2, d3, d4, d5, d6] => { results := [.lit (.bool true)], args := [d1, d2, d3, d4, d5, d6] }
  | _ => none }
def seriesTellsRow : OpenClaim := { program := "ytapadkjknnfifaagreat", sum := "7c8ea3d580b3f930afc0704b02a2348a9be7668f7a02bb227a7ed533f3229954", func := "plimsoll/plimsolllaw15.SeriesTells", spec := "seriesTells", inPlace := ["math/bits.Add64"], unfollowed := true, recurses := true, apart := false }
def SeriesTellsSaid : Prop := seriesTellsRow.holds Tryz.pinned (OpenSpec.ofChange seriesTellsSpec)

/-- ITS FALSE NEIGHBOUR: 'it returns false'. Refute it at one input. -/
def seriesTellsWrong : ChangeSpec := { name := "seriesTells", fn := fun _ => fun
  | [d1, d2, d3, d4, d5, d6] => { results := [.lit (.bool false)], args := [d1, d2, d3, d4, d5, d6] }
  | _ => none }
def SeriesTellsWrongFalsely : Prop := seriesTellsRow.holds Tryz.pinned (OpenSpec.ofChange seriesTellsWrong)

/-- 'plimsolllaw15.SeriesNew': WHATEVER THE INPUT: true; the input reads as it did. -/
def seriesNewSpec : ChangeSpec := { name := "seriesNew", fn := fun _ => fun
  | [d1, d2, d3, d4, d5, d6] => { results := [.lit (.bool true)], args := [d1, d2, d3, d4, d5, d6] }
  | _ => none }
def seriesNewRow : OpenClaim := { program := "ytapadkjknnfifaagreat", sum := "7c8ea3d580b3f930afc0704b02a2348a9be7668f7a02bb227a7ed533f3229954", func := "plimsoll/plimsolllaw15.SeriesNew", spec := "seriesNew", inPlace := ["math/bits.Add64"], unfollowed := true, recurses := true, apart := false }
def SeriesNewSaid : Prop := seriesNewRow.holds Tryz.pinned (OpenSpec.ofChange seriesNewSpec)

/-- ITS FALSE NEIGHBOUR: 'it returns false'. Refute it at one input. -/
def seriesNewWrong : ChangeSpec := { name := "seriesNew", fn := fun _ => fun
  | [d1, d2, d3, d4, d5, d6] => { results := [.lit (.bool false)], args := [d1, d2, d3, d4, d5, d6] }
  | _ => none }
def SeriesNewWrongFalsely : Prop := seriesNewRow.holds Tryz.pinned (OpenSpec.ofChange seriesNewWrong)

/-- 'plimsolllaw15.SeriesAgree': WHATEVER THE INPUT: true; the input reads as it did. -/
def seriesAgreeSpec : ChangeSpec := { name := "seriesAgree", fn := fun _ => fun
  | [d1, d2, d3, d4, d5] => { results := [.lit (.bool true)], args := [d1, d2, d3, d4, d5] }
  | _ => none }
def seriesAgreeRow : OpenClaim := { program := "ytapadkjknnfifaagreat", sum := "7c8ea3d580b3f930afc0704b02a2348a9be7668f7a02bb227a7ed533f3229954", func := "plimsoll/plimsolllaw15.SeriesAgree", spec := "seriesAgree", inPlace := ["math/bits.Add64"], unfollowed := true, recurses := true, apart := false }
def SeriesAgreeSaid : Prop := seriesAgreeRow.holds Tryz.pinned (OpenSpec.ofChange seriesAgreeSpec)

/-- ITS FALSE NEIGHBOUR: 'it returns false'. Refute it at one input. -/
def seriesAgreeWrong : ChangeSpec := { name := "seriesAgree", fn := fun _ => fun
  | [d1, d2, d3, d4, d5] => { results := [.lit (.bool false)], args := [d1, d2, d3, d4, d5] }
  | _ => none }
def SeriesAgreeWrongFalsely : Prop := seriesAgreeRow.holds Tryz.pinned (OpenSpec.ofChange seriesAgreeWrong)

/-- 'plimsolllaw15.SeriesExact': WHATEVER THE INPUT: true; the input reads as it did. -/
def seriesExactSpec : ChangeSpec := { name := "seriesExact", fn := fun _ => fun
  | [d1, d2, d3, d4, d5] => { results := [.lit (.bool true)], args := [d1, d2, d3, d4, d5] }
  | _ => none }
def seriesExactRow : OpenClaim := { program := "ytapadkjknnfifaagreat", sum := "7c8ea3d580b3f930afc0704b02a2348a9be7668f7a02bb227a7ed533f3229954", func := "plimsoll/plimsolllaw15.SeriesExact", spec := "seriesExact", inPlace := ["math/bits.Add64"], unfollowed := true, recurses := true, apart := false }
def SeriesExactSaid : Prop := seriesExactRow.holds Tryz.pinned (OpenSpec.ofChange seriesExactSpec)

/-- ITS FALSE NEIGHBOUR: 'it returns false'. Refute it at one input. -/
def seriesExactWrong : ChangeSpec := { name := "seriesExact", fn := fun _ => fun
  | [d1, d2, d3, d4, d5] => { results := [.lit (.bool false)], args := [d1, d2, d3, d4, d5] }
  | _ => none }
def SeriesExactWrongFalsely : Prop := seriesExactRow.holds Tryz.pinned (OpenSpec.ofChange seriesExactWrong)

/- THE SECOND FORM. 'bulk': how many values and letters a reading holds, each counted each time it is reached (what is shared counts as often as it is met; a slice's spare places count too). A statement '..UptoSaid' is the law's where the arguments, and the package variables that the reading takes, are together of bulk at most 1048576: NARROWER than '..Said'. Prove '..Said' where nothing that the law and all that it calls make is longer than what came in: it says more and counts as full. Else prove '..UptoSaid'. A law counts once. -/
mutual
def uptoBulk {H : Type} : DataW H → Nat
  | .lit (.string bytes) => bytes.length + 1
  | .lit _ => 1
  | .nil => 1
  | .ptr d => uptoBulk d + 1
  | .slice elems spare => uptoBulkAll elems + uptoBulkAll spare + 1
  | .agg parts => uptoBulkAll parts + 1
  | .iface _ d => uptoBulk d + 1
  | .map entries => uptoBulkEntries entries + 1
  | .held _ => 1
def uptoBulkAll {H : Type} : List (DataW H) → Nat
  | [] => 0
  | d :: r => uptoBulk d + uptoBulkAll r
def uptoBulkEntries {H : Type} : List (Lit × DataW H) → Nat
  | [] => 0
  | x :: r => uptoBulkEntry x + uptoBulkEntries r
def uptoBulkEntry {H : Type} : Lit × DataW H → Nat
  | (.string bytes, d) => bytes.length + uptoBulk d + 1
  | (_, d) => uptoBulk d + 1
 end
def uptoSmall : (H : Type) → List (DataW H) → Bool := fun _ ds => decide (uptoBulkAll ds ≤ 1048576)
def OpenSpec.upto (s : _root_.Go.ChangeSpec) : _root_.Go.OpenSpec := { _root_.Go.OpenSpec.ofChange s with cond := some uptoSmall }

/-- 'plimsolllaw20.CascadeTells', WHERE WHAT IT READS IS OF BULK AT MOST 1048576: true; the input reads as it did. -/
def cascadeTellsUptoRow : OpenClaim := { program := "ytapadkjknnfifaagreat", sum := "7c8ea3d580b3f930afc0704b02a2348a9be7668f7a02bb227a7ed533f3229954", func := "plimsoll/plimsolllaw20.CascadeTells", spec := "cascadeTells", inPlace := ["math/bits.Add64"], unfollowed := true, recurses := true, apart := false, narrowed := true }
def CascadeTellsUptoSaid : Prop := cascadeTellsUptoRow.holds Tryz.pinned (OpenSpec.upto cascadeTellsSpec)

/-- 'plimsolllaw15.SeriesTells', WHERE WHAT IT READS IS OF BULK AT MOST 1048576: true; the input reads as it did. -/
def seriesTellsUptoRow : OpenClaim := { program := "ytapadkjknnfifaagreat", sum := "7c8ea3d580b3f930afc0704b02a2348a9be7668f7a02bb227a7ed533f3229954", func := "plimsoll/plimsolllaw15.SeriesTells", spec := "seriesTells", inPlace := ["math/bits.Add64"], unfollowed := true, recurses := true, apart := false, narrowed := true }
def SeriesTellsUptoSaid : Prop := seriesTellsUptoRow.holds Tryz.pinned (OpenSpec.upto seriesTellsSpec)

/-- 'plimsolllaw15.SeriesNew', WHERE WHAT IT READS IS OF BULK AT MOST 1048576: true; the input reads as it did. -/
def seriesNewUptoRow : OpenClaim := { program := "ytapadkjknnfifaagreat", sum := "7c8ea3d580b3f930afc0704b02a2348a9be7668f7a02bb227a7ed533f3229954", func := "plimsoll/plimsolllaw15.SeriesNew", spec := "seriesNew", inPlace := ["math/bits.Add64"], unfollowed := true, recurses := true, apart := false, narrowed := true }
def SeriesNewUptoSaid : Prop := seriesNewUptoRow.holds Tryz.pinned (OpenSpec.upto seriesNewSpec)

/-- 'plimsolllaw15.SeriesAgree', WHERE WHAT IT READS IS OF BULK AT MOST 1048576: true; the input reads as it did. -/
def seriesAgreeUptoRow : OpenClaim := { program := "ytapadkjknnfifaagreat", sum := "7c8ea3d580b3f930afc0704b02a2348a9be7668f7a02bb227a7ed533f3229954", func := "plimsoll/plimsolllaw15.SeriesAgree", spec := "seriesAgree", inPlace := ["math/bits.Add64"], unfollowed := true, recurses := true, apart := false, narrowed := true }
def SeriesAgreeUptoSaid : Prop := seriesAgreeUptoRow.holds Tryz.pinned (OpenSpec.upto seriesAgreeSpec)

/-- 'plimsolllaw15.SeriesExact', WHERE WHAT IT READS IS OF BULK AT MOST 1048576: true; the input reads as it did. -/
def seriesExactUptoRow : OpenClaim := { program := "ytapadkjknnfifaagreat", sum := "7c8ea3d580b3f930afc0704b02a2348a9be7668f7a02bb227a7ed533f3229954", func := "plimsoll/plimsolllaw15.SeriesExact", spec := "seriesExact", inPlace := ["math/bits.Add64"], unfollowed := true, recurses := true, apart := false, narrowed := true }
def SeriesExactUptoSaid : Prop := seriesExactUptoRow.holds Tryz.pinned (OpenSpec.upto seriesExactSpec)

end Rows
end Go.Proofs.YtapadkjknnfifaaGreat
